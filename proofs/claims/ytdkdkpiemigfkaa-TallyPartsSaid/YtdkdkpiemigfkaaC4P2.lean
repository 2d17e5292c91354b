/- Part 2 of the proof of the given statement (theorem tallyParts_holds, in the last part): for every input the law returns true, and each argument reads behind the call as it read before. No condition beyond the statement's own. -/
import Derived.Test.YtdkdkpiemigfkaaC4P1
import Derived.KernelRfl
import Derived.OrdersIn
import Derived.RangeFuncRecord
import Derived.Test.YtdkdkpiemigfkaaProg
set_option linter.unusedVariables false
set_option linter.unusedSimpArgs false
namespace Go.Proofs.Ytdkdkpiemigfkaa
open Go
structure Draw where
  pr : List (List Nat)
  l0 : List Nat
  rest : List (Nat × List Nat)
def Draw.p (D : Draw) (i : Nat) : List Nat := D.pr.getD i []
def flatRest (r : List (Nat × List Nat)) : List Nat := r.flatMap fun h => h.1 :: h.2
def Draw.order (D : Draw) : List Nat := D.l0 ++ flatRest D.rest
def dstOf (ops : Array Oper) (i : Nat) : Option Nat := (ops[i]?).bind (·.dst)
def aopOf (ops : Array Oper) (i : Nat) : AOp := ((comp ops)[i]?).getD ⟨none, .move (.const undef), 0, none⟩
def namesOf (ops : Array Oper) (i : Nat) : List Nat :=
  match ops[i]? with
  | none => []
  | some o => o.dst.toList ++ (o.op.operands.toList.filterMap fun | .tmp t => some t | _ => none) ++ ((o.guard.bind fun jw => dstOf ops jw.1).toList)
def reckons : Op → Bool
  | .move _ | .assign _ | .pick .. | .build .. | .nilCheck _ | .fieldAddr .. | .indexAddr .. | .extract .. | .field .. | .index .. | .makeFunc .. | .unOp .. | .binOp .. | .makeInterface .. => true
  | _ => false
def looks : Op → Bool
  | .load .. | .lookup .. | .convert .. | .slice .. => true
  | .call c => match c.callee with
    | .builtin .len => true
    | .builtin .min => true
    | .builtin .max => true
    | _ => false
  | _ => false
def floats : Op → Bool
  | .alloc _ | .box .. | .buildSlice .. => true
  | _ => false
def directs (ops : Array Oper) (i : Nat) : List Nat :=
  match ops[i]? with
  | none => []
  | some o => o.after.toList.filterMap fun e => if Region.binds .any e then some e.on else none
def okDraw (ops : Array Oper) (D : Draw) : Bool :=
  let N := ops.size
  let o := D.order
  ((List.range N).all fun i => o.contains i) && o.all (fun i => decide (i < N)) && decide o.Nodup &&
  (List.range N).all (fun i => (directs ops i).all (fun j => decide (j < i)) && (D.p i).all fun j => (directs ops i).contains j || (directs ops i).any fun k => (D.p k).contains j) &&
  (List.range N).all (fun i => (List.range N).all fun j => i == j || (match dstOf ops j with
    | none => true
    | some t => !((namesOf ops i).contains t) || (D.p i).contains j || (D.p j).contains i)) &&
  (List.range N).all (fun k => (match o[k]? with | none => true | some i => (D.p i).all fun j => (o.take k).contains j)) &&
  (heavyAll D.rest) &&
  (D.l0 ++ D.rest.flatMap (·.2)).all (fun i => match ops[i]? with | none => false | some p => reckons p.op || looks p.op || floats p.op)
where
  heavyAll : List (Nat × List Nat) → Bool
    | [] => true
    | (h, ls) :: r => (ls ++ flatRest r).all (fun i => (D.p i).contains h) && heavyAll r
structure Ent where
  i : Nat
  s : Slots
  v : Value
  M : AMem
def again (P : Program) (ops : Array Oper) (M : AMem) (e : Ent) : Prop :=
  if reckons (aopOf ops e.i).op then True
  else if floats (aopOf ops e.i).op then M.get e.M.next = (match aop P e.s e.M (aopOf ops e.i) with | some (_, M') => M'.get e.M.next | none => .dead)
  else aop P e.s M (aopOf ops e.i) = some (e.v, M)
def evalLights (P : Program) (ops : Array Oper) : List Nat → Slots → AMem → List Ent → Option (Slots × AMem × List Ent)
  | [], s, M, es => some (s, M, es)
  | i :: is, s, M, es => match wantA (aopOf ops i).g s with
    | some true => match aop P s M (aopOf ops i) with
      | some (v, M') => evalLights P ops is (upd s (dstOf ops i) v) (if floats (aopOf ops i).op then M' else M) (⟨i, s, v, M⟩ :: es)
      | none => none
    | some false => evalLights P ops is (upd s (dstOf ops i) undef) M es
    | none => none
def againAll (P : Program) (ops : Array Oper) (M : AMem) : List Ent → Prop
  | [] => True
  | e :: es => again P ops M e ∧ againAll P ops M es
def evalH (P : Program) (S : FuncId → ASpec) (ops : Array Oper) (D : Draw) : List (Nat × List Nat) → Slots → AMem → List Ent → (Out → Prop) → Prop
  | [], s, M, es, K => againAll P ops M es ∧ K (.norm s M)
  | (h, hs) :: r, s, M, es, K => againAll P ops M es ∧
    match wantA (aopOf ops h).g s with
    | some true => evalOp P S s M (aopOf ops h) fun res M2 => match res with
      | .ret v => match evalLights P ops hs (upd s (dstOf ops h) v) M2 (es.filter fun e => !(D.p h).contains e.i) with
        | some (s', M', es') => evalH P S ops D r s' M' es' K
        | none => False
      | .pan v => K (.pan v M2)
    | some false => match evalLights P ops hs (upd s (dstOf ops h) undef) M (es.filter fun e => !(D.p h).contains e.i) with
      | some (s', M', es') => evalH P S ops D r s' M' es' K
      | none => False
    | none => False
def evalD (P : Program) (S : FuncId → ASpec) (ops : Array Oper) (D : Draw) (s : Slots) (M : AMem) (K : Out → Prop) : Prop :=
  match evalLights P ops D.l0 s M [] with
  | some (s', M', es') => evalH P S ops D D.rest s' M' es' K
  | none => False
def sl (ops : Array Oper) (s0 : Slots) (lg : List (Nat × Value)) : Slots := lg.foldl (fun s p => upd s (dstOf ops p.1) p.2) s0
def writes (ops : Array Oper) (t : Nat) (p : Nat × Value) : Bool := dstOf ops p.1 == some t
theorem sl_last (ops : Array Oper) (t : Nat) : ∀ (lg : List (Nat × Value)) (s0 : Slots), sl ops s0 lg t = match (lg.filter (writes ops t)).getLast? with | some p => p.2 | none => s0 t := by
  intro lg
  induction lg with
  | nil => intro s0; rfl
  | cons p lg ih =>
    intro s0
    show sl ops (upd s0 (dstOf ops p.1) p.2) lg t = _
    rw [ih, List.filter_cons]
    by_cases hw : writes ops t p = true
    · rw [if_pos hw]
      have hd : dstOf ops p.1 = some t := by simpa [writes] using hw
      cases hl : lg.filter (writes ops t) with
      | nil => simp [hd, upd]
      | cons q qs =>
        rw [List.getLast?_cons_cons]
        cases hq : (q :: qs).getLast? with
        | none => simp at hq
        | some z => rfl
    · rw [if_neg hw]
      have hd : dstOf ops p.1 ≠ some t := by simpa [writes] using hw
      cases hl : (lg.filter (writes ops t)).getLast? with
      | some q => rfl
      | none =>
        simp only [upd]
        cases he : dstOf ops p.1 with
        | none => rfl
        | some d => simp only; rw [if_neg]; intro e; exact hd (by rw [he, e])
theorem sl_congr {ops : Array Oper} {t : Nat} {lg lg' : List (Nat × Value)} (s0 : Slots) (h : lg.filter (writes ops t) = lg'.filter (writes ops t)) : sl ops s0 lg t = sl ops s0 lg' t := by
  rw [sl_last, sl_last, h]
theorem sl_append (ops : Array Oper) (s0 : Slots) (a b : List (Nat × Value)) : sl ops s0 (a ++ b) = sl ops (sl ops s0 a) b := by simp [sl]
theorem ev_congr {s s' : Slots} {x : Operand} (h : ∀ t, x = .tmp t → s t = s' t) : ev s x = ev s' x := by
  cases x with
  | tmp t => exact h t rfl
  | _ => rfl
theorem abound_congr {s s' : Slots} {d : Int} {x : Option Operand} (h : ∀ y, x = some y → ev s y = ev s' y) : abound s d x = abound s' d x := by
  cases x with
  | none => rfl
  | some y => simp only [abound, h y rfl]
theorem aop_congr {P : Program} {s s' : Slots} {M : AMem} {o : AOp} (h : ∀ x ∈ o.op.operands, ev s x = ev s' x) (hsel : ∀ cs b, o.op ≠ .select cs b) : aop P s M o = aop P s' M o := by
  obtain ⟨dst, op, ty, g⟩ := o
  have hex : execOp (ev s) (AOp.oper ⟨dst, op, ty, g⟩) = execOp (ev s') (AOp.oper ⟨dst, op, ty, g⟩) := execOp_congr _ hsel h
  have hpure : apure P s (AOp.oper ⟨dst, op, ty, g⟩) = apure P s' (AOp.oper ⟨dst, op, ty, g⟩) := by
    unfold apure
    rw [hex]
    have : (AOp.oper ⟨dst, op, ty, g⟩).op.operands.all (fun x => flat (ev s x)) = (AOp.oper ⟨dst, op, ty, g⟩).op.operands.all (fun x => flat (ev s' x)) := by
      rw [Bool.eq_iff_iff, Array.all_eq_true', Array.all_eq_true']
      constructor
      · intro q x hx; rw [← h x hx]; exact q x hx
      · intro q x hx; rw [h x hx]; exact q x hx
    rw [this]
  simp only at h
  have hparts : ∀ (ps : Array (Nat × Operand)), (∀ p ∈ ps, ev s p.2 = ev s' p.2) → ps.toList.map (fun p => (p.1, ev s p.2)) = ps.toList.map (fun p => (p.1, ev s' p.2)) := by
    intro ps hps
    apply List.map_congr_left
    intro p hp
    rw [hps p (by simpa using hp)]
  have harr : ∀ (xs : Array Operand), (∀ x ∈ xs, ev s x = ev s' x) → xs.map (ev s) = xs.map (ev s') := by
    intro xs hxs
    exact Array.map_congr_left hxs
  cases op with
  | build t ps =>
    simp only [aop]
    rw [hparts ps (fun p hp => h p.2 (by simp only [Op.operands]; simp; exact ⟨p.1, hp⟩))]
  | buildSlice t len ps =>
    simp only [aop]
    rw [hparts ps (fun p hp => h p.2 (by simp only [Op.operands]; simp; exact ⟨p.1, hp⟩))]
  | makeFunc fn f c =>
    simp only [aop]
    rw [harr f (fun x hx => h x (by simp only [Op.operands]; exact Array.mem_append.2 (.inl hx))), harr c (fun x hx => h x (by simp only [Op.operands]; exact Array.mem_append.2 (.inr hx)))]
  | slice t x lo hi mx =>
    cases mx with
    | some m => simp only [aop]; rw [hpure]
    | none =>
      simp only [aop]
      have h1 : ev s x = ev s' x := h x (by simp [Op.operands])
      have h2 : ∀ y, lo = some y → ev s y = ev s' y := fun y hy => h y (by subst hy; simp [Op.operands])
      have h3 : ∀ y, hi = some y → ev s y = ev s' y := fun y hy => h y (by subst hy; simp [Op.operands])
      unfold aslice
      simp only [h1, abound_congr h2, abound_congr h3]
  | call c =>
    show acall P s M c _ = acall P s' M c _
    unfold acall
    rw [hpure]
    have hm : ∀ x ∈ c.args.toList, ev s x = ev s' x := fun x hx => h x (by simp only [Op.operands, Call.operands]; exact Array.mem_append.2 (.inr (by simpa using hx)))
    split <;> first
      | rfl
      | (rename_i x t hc hargs hats; rw [hm x (by rw [hargs]; simp)])
      | (rename_i x y t tx hc hargs hats; rw [hm x (by rw [hargs]; simp), hm y (by rw [hargs]; simp)])
  | move x => simp only [aop]; rw [h x (by simp [Op.operands])]
  | assign x => simp only [aop]; rw [h x (by simp [Op.operands])]
  | pick c a b => simp only [aop]; rw [h c (by simp [Op.operands]), h a (by simp [Op.operands]), h b (by simp [Op.operands])]
  | box t x => simp only [aop]; rw [h x (by simp [Op.operands])]
  | load t a => simp only [aop]; rw [h a (by simp [Op.operands])]
  | store t a x => simp only [aop]; rw [h a (by simp [Op.operands]), h x (by simp [Op.operands])]
  | nilCheck x => simp only [aop]; rw [h x (by simp [Op.operands])]
  | fieldAddr t x f => simp only [aop]; rw [h x (by simp [Op.operands])]
  | indexAddr t x y => simp only [aop]; rw [h x (by simp [Op.operands]), h y (by simp [Op.operands])]
  | extract x k => simp only [aop]; rw [h x (by simp [Op.operands])]
  | field t x f => simp only [aop]; rw [h x (by simp [Op.operands])]
  | index t x y => simp only [aop]; rw [h x (by simp [Op.operands]), h y (by simp [Op.operands])]
  | makeMap t q => cases q <;> simp only [aop]; rw [hpure]
  | makeSlice t l c => simp only [aop]; rw [h l (by simp [Op.operands]), h c (by simp [Op.operands])]
  | convert t u x => simp only [aop]; rw [h x (by simp [Op.operands])]
  | lookup t x y ok => simp only [aop]; rw [h x (by simp [Op.operands]), h y (by simp [Op.operands])]
  | mapUpdate t x y u => simp only [aop]; rw [h x (by simp [Op.operands]), h y (by simp [Op.operands]), h u (by simp [Op.operands])]
  | insert t x y u => simp only [aop]; rw [h x (by simp [Op.operands]), h y (by simp [Op.operands]), h u (by simp [Op.operands])]
  | range t x => simp only [aop]; rw [h x (by simp [Op.operands])]
  | next x b =>
    cases b with
    | true => simp only [aop]; rw [h x (by simp [Op.operands])]
    | false => simp only [aop]; rw [hpure]
  | unOp op t x => simp only [aop]; rw [h x (by simp [Op.operands])]
  | binOp op t x y u => simp only [aop]; rw [h x (by simp [Op.operands]), h y (by simp [Op.operands]), hpure]
  | makeInterface t x => simp only [aop]; rw [h x (by simp [Op.operands])]
  | _ => first | rfl | (simp only [aop]; rw [hpure])
theorem aop_reckons {P : Program} {s : Slots} {M M' : AMem} {o : AOp} {v : Value} (hr : reckons o.op = true) (h : aop P s M o = some (v, M')) : M' = M ∧ ∀ M2, aop P s M2 o = some (v, M2) := by
  obtain ⟨dst, op, ty, g⟩ := o
  have hmap : ∀ {x : Option Value}, x.map (fun v => (v, M)) = some (v, M') → M' = M ∧ ∀ M2 : AMem, x.map (fun v => (v, M2)) = some (v, M2) := by
    intro x hx
    obtain ⟨u, h1, h2⟩ := map_pair hx
    cases h2
    exact ⟨rfl, fun M2 => by rw [h1]; rfl⟩
  cases op <;> simp only [reckons, Bool.false_eq_true] at hr
  case move x => simp only [aop, Option.some.injEq, Prod.mk.injEq] at h ⊢; exact ⟨h.2.symm, fun _ => ⟨h.1, trivial⟩⟩
  case assign x => simp only [aop, Option.some.injEq, Prod.mk.injEq] at h ⊢; exact ⟨h.2.symm, fun _ => ⟨h.1, trivial⟩⟩
  case pick c a b =>
    simp only [aop] at h ⊢
    split at h
    · rename_i t ht
      simp only [Option.some.injEq, Prod.mk.injEq] at h
      exact ⟨h.2.symm, fun M2 => by rw [h.1]⟩
    · cases h
  case build t ps =>
    simp only [aop] at h ⊢
    obtain ⟨u, h1, h2⟩ := map_pair h
    cases h2
    exact ⟨rfl, fun M2 => by rw [h1]; rfl⟩
  case nilCheck x =>
    simp only [aop] at h ⊢
    split at h
    · simp only [Option.some.injEq, Prod.mk.injEq] at h; exact ⟨h.2.symm, fun M2 => by rw [h.1]⟩
    · simp only [Option.some.injEq, Prod.mk.injEq] at h; exact ⟨h.2.symm, fun M2 => by rw [h.1]⟩
    · cases h
  case fieldAddr t x f => exact hmap h
  case indexAddr t x y => exact hmap h
  case extract x k =>
    simp only [aop] at h ⊢
    split at h
    · exact hmap h
    · cases h
  case field t x f => exact hmap h
  case index t x y => exact hmap h
  case makeFunc fn f c => simp only [aop, Option.some.injEq, Prod.mk.injEq] at h ⊢; exact ⟨h.2.symm, fun _ => ⟨h.1, trivial⟩⟩
  case unOp op t x => exact hmap h
  case binOp op t x y u =>
    simp only [aop] at h ⊢
    split at h
    · rename_i w hw
      simp only [Option.some.injEq, Prod.mk.injEq] at h
      exact ⟨h.2.symm, fun M2 => by rw [h.1]⟩
    · split at h
      · rename_i w hw
        simp only [Option.some.injEq, Prod.mk.injEq] at h
        exact ⟨h.2.symm, fun M2 => by rw [h.1]⟩
      · exact hmap h
  case makeInterface t x =>
    simp only [aop] at h ⊢
    split at h
    · cases h
    · simp only [Option.some.injEq, Prod.mk.injEq] at h; exact ⟨h.2.symm, fun M2 => by rw [h.1]⟩
    · cases h
def FloatOK (P : Program) (n : Nat) (s : Slots) (o : Oper) (vf : Nat → Value) (ob : AObj) : Prop :=
  ∀ F ρ ca w, SR ρ n s ca → (∀ b, w.heap.size ≤ b → F b) → ∃ x ext nx cv, (execOp ca.eval o).run P w = .ok nx (w.alloc x) ∧ nextVal nx = some cv ∧
    (∀ ρ', (∀ i pl, ρ i = some pl → ρ' i = some pl) → ObjR F ρ' ⟨w.heap.size, 0, ext⟩ (w.alloc x) ob) ∧
    ∀ ρ' k, ρ' k = some ⟨w.heap.size, 0, ext⟩ → VR ρ' (vf k) cv
theorem objR_cells {F : Nat → Prop} {ρ : Rho} {w : World} {vs : List Value} {C : Array Value} {e : TypeId} (htop : ∀ b, w.heap.size ≤ b → F b) (hl : vs.length ≤ C.size)
    (hr : ∀ (i : Nat) (v : Value), vs[i]? = some v → ∃ c, C[i]? = some c ∧ VR ρ v c) :
    ∀ ρ', (∀ i pl, ρ i = some pl → ρ' i = some pl) → ObjR F ρ' ⟨w.heap.size, 0, C.size⟩ (w.alloc (.cells C e (0, 0))) (.cells vs true) := by
  intro ρ' hup
  refine ⟨C, e, 0, 0, by show (w.heap.push _)[w.heap.size]? = _; simp, hl, by simp, fun i v hv => ?_, fun _ => ⟨htop _ (Nat.le_refl _), fun i _ => by omega⟩⟩
  obtain ⟨c, hc, hv⟩ := hr i v hv
  exact ⟨c, by simpa using hc, hv.mono hup⟩
theorem afill_length (place : Nat → Option (Nat × Nat)) : ∀ (ps : List (Nat × Value)) (a b : List Value), afill place a ps = some b → b.length = a.length := by
  intro ps
  induction ps with
  | nil => intro a b h; simp only [afill, Option.some.injEq] at h; rw [h]
  | cons p ps ih =>
    intro a b h
    simp only [afill] at h
    split at h
    · cases h
    · split at h
      · rw [ih _ _ h, aput_length]
      · cases h
theorem aop_floats {P : Program} {n : Nat} {s : Slots} {M M' : AMem} {a : AOp} {v : Value} (hr : floats a.op = true) (hok : okOp n a.op = true) (h : aop P s M a = some (v, M')) :
    ∃ (vf : Nat → Value) (ob : AObj), v = vf M.next ∧ M' = M.alloc ob ∧ ob.live = true ∧ FloatOK P n s a.oper vf ob := by
  obtain ⟨dst, op, ty, g⟩ := a
  cases op <;> simp only [floats, Bool.false_eq_true] at hr
  case alloc t =>
    simp only [aop] at h
    split at h
    · rename_i i hi
      split at h
      · rename_i z hz
        split at h
        · rename_i hf
          simp only [Option.some.injEq, Prod.mk.injEq] at h
          refine ⟨fun k => .pointer (some ⟨k, 0, none⟩), .cells z.cells.toList true, h.1.symm, h.2.symm, rfl, ?_⟩
          intro F ρ ca w hs htop
          have hv : VR ρ z z := flat_refl hf
          refine ⟨.cells z.cells t (0, 0), z.cells.size, .value (.pointer (some ⟨w.heap.size, 0, none⟩)), _, ?_, rfl, objR_cells htop (by simp) (fun j v hj => ⟨v, by simpa using hj, hv.cells.2 j v v (by simpa using hj) (by simpa using hj)⟩), fun ρ' k hk => .ptr (pl := ⟨w.heap.size, 0, z.cells.size⟩) hk⟩
          simp [execOp, AOp.oper, Instr.alloc, run_zero hi hz, newVar, newRow]
        · cases h
      · cases h
    · cases h
  case box t x =>
    simp only [aop, Option.some.injEq, Prod.mk.injEq] at h
    refine ⟨fun k => .pointer (some ⟨k, 0, none⟩), .cells (ev s x).cells.toList true, h.1.symm, h.2.symm, rfl, ?_⟩
    intro F ρ ca w hs htop
    have hv := (hs.ev (ok1 hok (x := x) (by simp [Op.operands]))).cells
    refine ⟨.cells (ca.eval x).cells t (0, 0), (ca.eval x).cells.size, .value (.pointer (some ⟨w.heap.size, 0, none⟩)), _, ?_, rfl, objR_cells htop (by simp [hv.1]) (fun j v hj => ?_), fun ρ' k hk => .ptr (pl := ⟨w.heap.size, 0, (ca.eval x).cells.size⟩) hk⟩
    · simp [execOp, AOp.oper, Instr.box, newVar, newRow]
    · have hj' : (ev s x).cells[j]? = some v := by simpa using hj
      exact VRs.get hv hj'
  case buildSlice t len ps =>
    simp only [aop] at h
    obtain ⟨q, hb, h2⟩ := map_pair h
    obtain ⟨e, cs⟩ := q
    simp only [Prod.mk.injEq] at h2
    refine ⟨fun k => .slice (some ⟨k, 0, none⟩) len e, .cells cs true, h2.1.symm, h2.2.symm, rfl, ?_⟩
    intro F ρ ca w hs htop
    have hokp : ps.all (fun p => okO n p.2) = true := by
      simp only [okOp, Bool.and_eq_true, Op.operands] at hok
      have h1 := hok.1
      rw [Array.all_eq_true] at h1 ⊢
      intro i hi
      have := h1 i (by simpa using hi)
      simpa using this
    obtain ⟨hl, hp⟩ := parts_rel hs hokp
    unfold abuildSlice at hb
    split at hb
    · rename_i el ht
      split at hb
      · rename_i ie hi
        split at hb
        · rename_i z hz
          split at hb <;> rename_i hc
          · obtain ⟨cs', hfill, heq⟩ := Option.map_eq_some_iff.1 hb
            cases heq
            have hzr : VRl ρ (zeroRow z (len * ie.size)) ((Array.range (len * ie.size)).map (z.cells[· % z.cells.size]!)).toList := VRl.flat hc.2.2
            obtain ⟨C', h1, h2⟩ := afill_run (ρ := ρ) _ _ _ cs _ hfill hzr hl hp
            have hsz : C'.size = len * ie.size := by
              have e1 : cs.length = len * ie.size := by rw [afill_length _ _ _ _ hfill]; simp [zeroRow]
              have := h2.1
              simp at this
              omega
            refine ⟨.cells C' el (0, 0), C'.size, .value (.slice (some ⟨w.heap.size, 0, none⟩) len len), _, ?_, rfl, objR_cells htop (by rw [h2.1]; simp) (fun j v hj => ?_), fun ρ' k hk => ?_⟩
            · simp [execOp, AOp.oper, Instr.buildSlice, run_underlying ht, run_sizeOf' hi, hc.1, hc.2.1, run_zero hi hz, h1, newRow]
              first | done | (rw [if_neg (by omega)]; simp [h1])
            · obtain ⟨c, hc', hv⟩ := h2.get hj
              exact ⟨c, by simpa using hc', hv⟩
            · exact .slice (pl := ⟨w.heap.size, 0, C'.size⟩) hk (Nat.le_refl _) (by simp [hsz])
          · cases hb
        · cases hb
      · cases hb
    · cases hb
theorem Sim.late {F : Nat → Prop} {ρ : Rho} {M : AMem} {w : World} (h : Sim F ρ M w) {k : Nat} {x : Obj} {ext : Nat} (hk : ρ k = none) (hlt : k < M.next) (hlive : (M.get k).live = true)
    (ho : ∀ ρ', (∀ i pl, ρ i = some pl → ρ' i = some pl) → ObjR F ρ' ⟨w.heap.size, 0, ext⟩ (w.alloc x) (M.get k)) :
    Sim F (ρ.put k ⟨w.heap.size, 0, ext⟩) M (w.alloc x) ∧ Kept F w (w.alloc x) := by
  have hup := Rho.put_up (pl := ⟨w.heap.size, 0, ext⟩) hk
  have hold : ∀ b, b < w.heap.size → (w.alloc x).heap[b]? = w.heap[b]? := by
    intro b hb
    show (w.heap.push x)[b]? = _
    rw [Array.getElem?_push, if_neg (by omega)]
  refine ⟨⟨fun b hb => h.top b (by simp at hb; omega), ?_, ?_, ?_⟩, rfl, rfl, rfl, by simp, ?_⟩
  · intro i pl hi
    simp only [Rho.put] at hi
    split at hi
    · subst_vars; exact hlt
    · exact h.dom i pl hi
  · intro i pl hi
    simp only [Rho.put] at hi
    split at hi
    · subst_vars; cases hi; exact ho _ hup
    · exact (h.obj i pl hi).carry (fun hl => hold _ (h.lt hi hl)) hup
  · intro i j pi pj hi hj hij hoi hlj
    simp only [Rho.put] at hi hj
    by_cases h1 : i = k
    · have h2 : j ≠ k := fun e => hij (h1.trans e.symm)
      rw [if_neg h2] at hj
      rw [if_pos h1] at hi
      cases hi
      have := h.lt hj hlj
      exact fun e => by simp at e; omega
    · rw [if_neg h1] at hi
      by_cases h2 : j = k
      · rw [if_pos h2] at hj
        cases hj
        have hli : (M.get i).live = true := by
          cases hm : M.get i <;> simp_all [AObj.own, AObj.live]
        have := h.lt hi hli
        exact fun e => by simp at e; omega
      · rw [if_neg h2] at hj
        exact h.sep i j pi pj hi hj hij hoi hlj
  · intro b hb
    have : ¬ w.heap.size ≤ b := fun hle => hb (h.top b hle)
    exact hold b (by omega)
theorem Sim.ghost {F : Nat → Prop} {ρ : Rho} {M M' : AMem} {w : World} (h : Sim F ρ M w) (hn : M.next ≤ M'.next) (hg : ∀ i, i < M.next → M'.get i = M.get i) : Sim F ρ M' w := by
  refine ⟨h.top, fun i pl hi => Nat.lt_of_lt_of_le (h.dom i pl hi) hn, fun i pl hi => ?_, fun i j pi pj hi hj hij ho hl => ?_⟩
  · rw [hg i (h.dom i pl hi)]; exact h.obj i pl hi
  · rw [hg i (h.dom i pi hi)] at ho
    rw [hg j (h.dom j pj hj)] at hl
    exact h.sep i j pi pj hi hj hij ho hl
end Go.Proofs.Ytdkdkpiemigfkaa
set_option linter.unusedVariables false
set_option linter.unusedSimpArgs false
namespace Go.Proofs.Ytdkdkpiemigfkaa
open Go
structure DrawOK (ops : Array Oper) (D : Draw) : Prop where
  cover : ∀ i, i < ops.size → i ∈ D.order
  bound : ∀ i, i ∈ D.order → i < ops.size
  nodup : D.order.Nodup
  lower : ∀ i, i < ops.size → ∀ j ∈ directs ops i, j < i
  pres : ∀ i, i < ops.size → ∀ j ∈ D.p i, j ∈ directs ops i ∨ ∃ k ∈ directs ops i, j ∈ D.p k
  apart : ∀ i, i < ops.size → ∀ j, j < ops.size → i ≠ j → ∀ t, dstOf ops j = some t → t ∈ namesOf ops i → j ∈ D.p i ∨ i ∈ D.p j
  early : ∀ k i, D.order[k]? = some i → ∀ j ∈ D.p i, j ∈ D.order.take k
  heavy : okDraw.heavyAll D D.rest = true
  light : ∀ i, i ∈ D.l0 ++ D.rest.flatMap (·.2) → ∃ p, ops[i]? = some p ∧ (reckons p.op || looks p.op || floats p.op) = true
theorem DrawOK.of {ops : Array Oper} {D : Draw} (h : okDraw ops D = true) : DrawOK ops D := by
  unfold okDraw at h
  simp only [Bool.and_eq_true, List.all_eq_true, List.mem_range, decide_eq_true_eq] at h
  obtain ⟨⟨⟨⟨⟨⟨⟨h1, h2⟩, h3⟩, h4⟩, h5⟩, h6⟩, h7⟩, h8⟩ := h
  refine ⟨fun i hi => by simpa using h1 i hi, h2, h3, fun i hi => (h4 i hi).1, fun i hi j hj => ?_, fun i hi j hj hne t ht hn => ?_, fun k i hk j hj => ?_, h7, fun i hi => ?_⟩
  · have := (h4 i hi).2 j hj
    simp only [Bool.or_eq_true, List.contains_iff_mem, List.any_eq_true] at this
    exact this
  · have := h5 i hi j hj
    rw [ht] at this
    simp only [Bool.or_eq_true, beq_iff_eq, Bool.not_eq_true', List.contains_iff_mem, List.contains_eq_mem, decide_eq_false_iff_not, decide_eq_true_eq] at this
    rcases this with h | (h | h) | h
    · exact absurd h hne
    · exact absurd hn h
    · exact .inl h
    · exact .inr h
  · have hklt : k < D.order.length := (List.getElem?_eq_some_iff.1 hk).1
    have hlen : D.order.length ≤ ops.size := by
      have := List.Nodup.length_le_of_subset (l₁ := D.order) (l₂ := List.range ops.size) h3 (fun x hx => by simpa using h2 x hx)
      simpa using this
    have := h6 k (by omega)
    rw [hk] at this
    simp only [List.all_eq_true, List.contains_iff_mem] at this
    exact this j hj
  · have := h8 i hi
    cases ho : ops[i]? with
    | none => rw [ho] at this; simp at this
    | some p => rw [ho] at this; exact ⟨p, rfl, this⟩
def isF (ops : Array Oper) (e : Ent) : Prop := floats (aopOf ops e.i).op = true
def FP (ops : Array Oper) (es : List Ent) : Prop := es.Pairwise fun e e' => isF ops e → isF ops e' → e.M.next ≠ e'.M.next
def Pend (P : Program) (ops : Array Oper) (s0 : Slots) (lg : List (Nat × Value)) (es : List Ent) (i : Nat) : Prop :=
  ∃ k v, lg[k]? = some (i, v) ∧ ((v = undef ∧ wantA (aopOf ops i).g (sl ops s0 (lg.take k)) = some false) ∨
    ∃ e M1, e ∈ es ∧ e.i = i ∧ e.v = v ∧ e.s = sl ops s0 (lg.take k) ∧ wantA (aopOf ops i).g e.s = some true ∧ aop P e.s e.M (aopOf ops i) = some (v, M1))
theorem Pend.mono {P : Program} {ops : Array Oper} {s0 : Slots} {lg l2 : List (Nat × Value)} {es es' : List Ent} {i : Nat} (h : Pend P ops s0 lg es i) (he : ∀ e ∈ es, e.i = i → e ∈ es') : Pend P ops s0 (lg ++ l2) es' i := by
  obtain ⟨k, v, hk, h⟩ := h
  have hlt : k < lg.length := (List.getElem?_eq_some_iff.1 hk).1
  have ht : (lg ++ l2).take k = lg.take k := List.take_append_of_le_length (Nat.le_of_lt hlt)
  refine ⟨k, v, by rw [List.getElem?_append_left hlt]; exact hk, ?_⟩
  rw [ht]
  rcases h with h | ⟨e, M1, h1, h2, h3⟩
  · exact .inl h
  · exact .inr ⟨e, M1, he e h1 h2, h2, h3⟩
theorem aopOf_eq {ops : Array Oper} {i : Nat} {o : Oper} (h : ops[i]? = some o) : aopOf ops i = ⟨o.dst, o.op, o.type, o.guard.bind fun jw => ((ops[jw.1]?).bind (·.dst)).map fun d => (d, jw.2)⟩ := by
  simp [aopOf, comp, h]
theorem dstOf_eq {ops : Array Oper} {i : Nat} {o : Oper} (h : ops[i]? = some o) : dstOf ops i = o.dst := by simp [dstOf, h]
theorem aop_next {P : Program} {n : Nat} {s : Slots} {M M' : AMem} {a : AOp} {v : Value} (hr : floats a.op = true) (hok : okOp n a.op = true) (h : aop P s M a = some (v, M')) : ∃ ob, M' = M.alloc ob := by
  obtain ⟨vf, ob, _, h, _⟩ := aop_floats (n := n) hr hok h
  exact ⟨ob, h⟩
theorem lights_run {P : Program} {n : Nat} {ops : Array Oper} {s0 : Slots} (hok : ∀ i, i < ops.size → okOp n (aopOf ops i).op = true) : ∀ (ls : List Nat) (s : Slots) (M : AMem) (es : List Ent) (lg : List (Nat × Value)) (s' : Slots) (M' : AMem) (es' : List Ent),
    evalLights P ops ls s M es = some (s', M', es') → s = sl ops s0 lg → (∀ i ∈ ls, i < ops.size) →
    ∃ l2, l2.map Prod.fst = ls ∧ s' = sl ops s0 (lg ++ l2) ∧ M.next ≤ M'.next ∧ (∀ i, i < M.next → M'.get i = M.get i) ∧ (∀ i ∈ ls, Pend P ops s0 (lg ++ l2) es' i) ∧ (∀ e ∈ es, e ∈ es') ∧
      (∀ e ∈ es', e ∈ es ∨ (M.next ≤ e.M.next ∧ (isF ops e → e.M.next < M'.next))) ∧ (FP ops es → (∀ e ∈ es, isF ops e → e.M.next < M.next) → FP ops es') := by
  intro ls
  induction ls with
  | nil =>
    intro s M es lg s' M' es' h hs _
    simp only [evalLights, Option.some.injEq, Prod.mk.injEq] at h
    obtain ⟨rfl, rfl, rfl⟩ := h
    exact ⟨[], rfl, by simpa using hs, Nat.le_refl _, fun _ _ => rfl, fun i hi => by simp at hi, fun e he => he, fun e he => .inl he, fun h _ => h⟩
  | cons i is ih =>
    intro s M es lg s' M' es' h hs hlt
    have hi : i < ops.size := hlt i (by simp)
    simp only [evalLights] at h
    split at h
    · rename_i hw
      split at h
      · rename_i v M1 hv
        generalize hM2 : (if floats (aopOf ops i).op = true then M1 else M) = M2 at h
        have hn : M.next ≤ M2.next ∧ (∀ j, j < M.next → M2.get j = M.get j) ∧ (floats (aopOf ops i).op = true → M.next < M2.next) := by
          split at hM2
          · rename_i hf
            obtain ⟨ob, rfl⟩ := aop_next (n := n) hf (hok i hi) hv
            subst hM2
            exact ⟨by simp, fun j hj => by rw [AMem.get_alloc, if_neg (by omega)], fun _ => by simp⟩
          · rename_i hf
            subst hM2
            exact ⟨Nat.le_refl _, fun _ _ => rfl, fun h => absurd h hf⟩
        obtain ⟨l2, g1, g2, g3, g4, g5, g6, g7, g8⟩ := ih (upd s (dstOf ops i) v) M2 (⟨i, s, v, M⟩ :: es) (lg ++ [(i, v)]) s' M' es' h (by rw [sl_append, ← hs]; rfl) (fun j hj => hlt j (by simp [hj]))
        have happ : lg ++ (i, v) :: l2 = lg ++ [(i, v)] ++ l2 := by simp
        refine ⟨(i, v) :: l2, by simp [g1], by rw [happ]; exact g2, Nat.le_trans hn.1 g3, fun j hj => (g4 j (by omega)).trans (hn.2.1 j hj), ?_, fun e he => g6 e (by simp [he]), ?_, ?_⟩
        · intro j hj
          rw [happ]
          by_cases hj2 : j ∈ is
          · exact g5 j hj2
          · have : j = i := by simpa [hj2] using hj
            subst this
            refine Pend.mono (es := ⟨j, s, v, M⟩ :: es) ⟨lg.length, v, by simp, .inr ⟨⟨j, s, v, M⟩, M1, by simp, rfl, rfl, by simp [hs], hw, hv⟩⟩ (fun e he _ => g6 e he)
        · intro e he
          rcases g7 e he with h | ⟨h1, h2⟩
          · rcases List.mem_cons.1 h with h | h
            · subst h
              exact .inr ⟨Nat.le_refl _, fun hf => Nat.lt_of_lt_of_le (hn.2.2 hf) g3⟩
            · exact .inl h
          · exact .inr ⟨Nat.le_trans hn.1 h1, h2⟩
        · intro hfp hb
          refine g8 (List.pairwise_cons.2 ⟨fun e he _ hf => ?_, hfp⟩) ?_
          · have := hb e he hf
            simp only; omega
          · intro e he hf
            rcases List.mem_cons.1 he with h | h
            · subst h; exact hn.2.2 hf
            · exact Nat.lt_of_lt_of_le (hb e h hf) hn.1
      · cases h
    · rename_i hw
      obtain ⟨l2, g1, g2, g3, g4, g5, g6, g7, g8⟩ := ih (upd s (dstOf ops i) undef) M es (lg ++ [(i, undef)]) s' M' es' h (by rw [sl_append, ← hs]; rfl) (fun j hj => hlt j (by simp [hj]))
      have happ : lg ++ (i, undef) :: l2 = lg ++ [(i, undef)] ++ l2 := by simp
      refine ⟨(i, undef) :: l2, by simp [g1], by rw [happ]; exact g2, g3, g4, ?_, g6, g7, g8⟩
      intro j hj
      rw [happ]
      by_cases hj2 : j ∈ is
      · exact g5 j hj2
      · have : j = i := by simpa [hj2] using hj
        subst this
        exact Pend.mono (es := es) ⟨lg.length, undef, by simp, .inl ⟨rfl, by simpa [hs] using hw⟩⟩ (fun e he _ => g6 e he)
    · cases h
theorem agree {ops : Array Oper} {D : Draw} (hd : DrawOK ops D) {s0 : Slots} {lg : List (Nat × Value)} {tl : List Nat} {L : Nat → Bool} (ho : D.order = lg.map Prod.fst ++ tl) {i k : Nat} (hi : i < ops.size) (hun : L i = false)
    (hcl : ∀ i, L i = true → ∀ j ∈ D.p i, L j = true) (hre : ∀ j ∈ D.p i, L j = true) (hk : k ≤ lg.length) (hpos : D.order[k]? = some i) :
    ∀ t ∈ namesOf ops i, sl ops s0 (lg.filter fun p => L p.1) t = sl ops s0 (lg.take k) t := by
  intro t ht
  apply sl_congr
  have hord : ∀ (q : Nat) (p : Nat × Value), lg[q]? = some p → D.order[q]? = some p.1 := by
    intro q p hq
    have hlt : q < lg.length := (List.getElem?_eq_some_iff.1 hq).1
    rw [ho, List.getElem?_append_left (by simpa using hlt)]
    simp [hq]
  have huniq : ∀ (q q' : Nat) (x : Nat), D.order[q]? = some x → D.order[q']? = some x → q = q' := by
    intro q q' x h1 h2
    obtain ⟨l1, e1⟩ := List.getElem?_eq_some_iff.1 h1
    obtain ⟨l2, e2⟩ := List.getElem?_eq_some_iff.1 h2
    have hp := List.pairwise_iff_getElem.1 hd.nodup
    rcases Nat.lt_trichotomy q q' with h | h | h
    · exact absurd (e1.trans e2.symm) (hp q q' l1 l2 h)
    · exact h
    · exact absurd (e2.trans e1.symm) (hp q' q l2 l1 h)
  have htake : ∀ (q : Nat) (x : Nat), x ∈ D.order.take q → ∃ q', q' < q ∧ D.order[q']? = some x := by
    intro q x hx
    obtain ⟨q', hq', hx⟩ := List.mem_take_iff_getElem.1 hx
    exact ⟨q', by omega, by rw [← hx]; exact List.getElem?_eq_getElem _⟩
  have hlt : ∀ (q x : Nat), D.order[q]? = some x → x < ops.size := fun q x h => hd.bound x (List.mem_of_getElem? h)
  have e : lg = lg.take k ++ lg.drop k := (List.take_append_drop k lg).symm
  conv => lhs; rw [e]
  rw [List.filter_append, List.filter_append]
  have h1 : ((lg.take k).filter fun p => L p.1).filter (writes ops t) = (lg.take k).filter (writes ops t) := by
    rw [List.filter_filter]
    apply List.filter_congr
    intro p hp
    by_cases hw : writes ops t p = true
    · obtain ⟨q, hq, hpq⟩ := List.mem_take_iff_getElem.1 hp
      have hq' : D.order[q]? = some p.1 := hord q p (by rw [← hpq]; exact List.getElem?_eq_getElem _)
      have hne : i ≠ p.1 := by
        intro he
        have := huniq q k i (he ▸ hq') hpos
        omega
      have hdst : dstOf ops p.1 = some t := by simpa [writes] using hw
      rcases hd.apart i hi p.1 (hlt q _ hq') hne t hdst ht with h | h
      · simp [hre _ h, hw]
      · obtain ⟨q2, h2, h3⟩ := htake q i (hd.early q p.1 hq' i h)
        have := huniq q2 k i h3 hpos
        omega
    · simp [hw]
  have h2 : ((lg.drop k).filter fun p => L p.1).filter (writes ops t) = [] := by
    rw [List.filter_filter, List.filter_eq_nil_iff]
    intro p hp hcon
    simp only [Bool.and_eq_true] at hcon
    obtain ⟨q, hq, hpq⟩ := List.getElem_of_mem hp
    have hq' : D.order[k + q]? = some p.1 := hord (k + q) p (by rw [← hpq, List.getElem_drop]; exact List.getElem?_eq_getElem _)
    have hne : i ≠ p.1 := by
      intro he
      rw [he, hcon.2] at hun
      cases hun
    have hdst : dstOf ops p.1 = some t := by simpa [writes] using hcon.1
    rcases hd.apart i hi p.1 (hlt _ _ hq') hne t hdst ht with h | h
    · obtain ⟨q2, h2, h3⟩ := htake k p.1 (hd.early k i hpos p.1 h)
      have := huniq q2 (k + q) _ h3 hq'
      omega
    · rw [hcl _ hcon.2 i h] at hun
      cases hun
  rw [h1, h2, List.append_nil]
theorem evalOp_congr {P : Program} {S : FuncId → ASpec} {s s' : Slots} {M : AMem} {o : AOp} {K : Res → AMem → Prop} (hsel : ∀ cs b, o.op ≠ .select cs b) (h : ∀ x ∈ o.op.operands, ev s x = ev s' x) (he : evalOp P S s M o K) : evalOp P S s' M o K := by
  have hc := aop_congr (P := P) (M := M) h hsel
  obtain ⟨dst, op, ty, g⟩ := o
  cases op with
  | call c =>
    simp only [evalOp] at he ⊢
    cases hcal : c.callee with
    | value f =>
      rw [hcal] at he
      have hfv : ev s f = ev s' f := h f (by simp [Op.operands, Call.operands, hcal])
      have hm : c.args.toList.map (ev s) = c.args.toList.map (ev s') := List.map_congr_left (fun x hx => h x (by simp only [Op.operands, Call.operands]; exact Array.mem_append.2 (.inr (by simpa using hx))))
      simp only at he ⊢
      rw [← hfv, ← hm]
      exact he
    | _ => rw [hcal] at he; simp only at he ⊢; rw [← hc]; exact he
  | panic x =>
    simp only [evalOp] at he ⊢
    rw [← h x (by simp [Op.operands])]
    exact he
  | _ => simp only [evalOp] at he ⊢; rw [← hc]; exact he
theorem wantA_congr {s s' : Slots} {g : Option (Nat × Bool)} (h : ∀ d b, g = some (d, b) → s d = s' d) : wantA g s = wantA g s' := by
  cases g with
  | none => rfl
  | some q => obtain ⟨d, b⟩ := q; simp only [wantA, h d b rfl]
theorem names_ops {ops : Array Oper} {i : Nat} {o : Oper} (ho : ops[i]? = some o) {s s' : Slots} (h : ∀ t ∈ namesOf ops i, s t = s' t) : ∀ x ∈ o.op.operands, ev s x = ev s' x := by
  intro x hx
  refine ev_congr fun t ht => h t ?_
  subst ht
  simp only [namesOf, ho, List.mem_append, List.mem_filterMap]
  exact .inl (.inr ⟨.tmp t, by simpa using hx, rfl⟩)
theorem names_want {ops : Array Oper} {i : Nat} {o : Oper} (ho : ops[i]? = some o) {s s' : Slots} (h : ∀ t ∈ namesOf ops i, s t = s' t) : wantA (aopOf ops i).g s = wantA (aopOf ops i).g s' := by
  refine wantA_congr fun d b hg => h d ?_
  rw [aopOf_eq ho] at hg
  simp only at hg
  simp only [namesOf, ho, List.mem_append]
  right
  cases hgd : o.guard with
  | none => rw [hgd] at hg; simp at hg
  | some jw =>
    rw [hgd] at hg
    simp only [Option.bind_some, Option.map_eq_some_iff, Prod.mk.injEq] at hg
    obtain ⟨d', hd', rfl, rfl⟩ := hg
    simp [dstOf, hd']
theorem FloatOK.wp {P : Program} {r : Option Nat} {n : Nat} {s : Slots} {o : Oper} {vf : Nat → Value} {ob : AObj} (h : FloatOK P n s o vf ob) (hnd : ∀ c, o.op ≠ .defer c) {F : Nat → Prop} {ρ : Rho} {M : AMem} {ca : Act} {w : World} {k : Nat} (hs : SR ρ n s ca) (hM : Sim F ρ M w)
    (hk : ρ k = none) (hlt : k < M.next) (hg : M.get k = ob) (hl : ob.live = true) {K : Act → World → Prop} {Q : Exit → Act → World → Prop}
    (hK : ∀ ρ' c w', (∀ i, i ≠ k → ρ' i = ρ i) → (∀ i pl, ρ i = some pl → ρ' i = some pl) → VR ρ' (vf k) c → Sim F ρ' M w' → Kept F w w' → K (ca.put o.dst c) w') : o.wpIn (FR r) 0 P ca w K Q := by
  obtain ⟨x, ext, nx, cv, h1, h2, h3, h4⟩ := h F ρ ca w hs hM.top
  obtain ⟨h5, h6⟩ := hM.late (x := x) (ext := ext) hk hlt (by rw [hg]; exact hl) (by rw [hg]; exact h3)
  have := hK (ρ.put k ⟨w.heap.size, 0, ext⟩) cv (w.alloc x) (fun i hi => by unfold Rho.put; rw [if_neg hi]) (Rho.put_up hk) (h4 _ k (by simp [Rho.put])) h5 h6
  refine ⟨fun _ _ => trivial, ?_⟩
  rw [Oper.semAt_eq _ _ _ hnd, h1]
  cases nx <;> simp only [nextVal, Option.some.injEq, reduceCtorEq] at h2
  · subst h2; exact this
  · subst h2; exact this
end Go.Proofs.Ytdkdkpiemigfkaa
set_option linter.unusedVariables false
set_option linter.unusedSimpArgs false
namespace Go.Proofs.Ytdkdkpiemigfkaa
open Go
def unl (ops : Array Oper) (listed : Array Bool) : Nat := ((List.range ops.size).filter fun i => !listed.getD i false).length
theorem unl_set {ops : Array Oper} {listed : Array Bool} (hs : listed.size = ops.size) {i : Nat} (hi : i < ops.size) (hu : listed.getD i false = false) : unl ops (listed.setIfInBounds i true) < unl ops listed := by
  unfold unl
  have h1 : (List.range ops.size).filter (fun j => !(listed.setIfInBounds i true).getD j false) = ((List.range ops.size).filter fun j => !listed.getD j false).filter fun j => !(j == i) := by
    rw [List.filter_filter]
    apply List.filter_congr
    intro j hj
    by_cases hji : j = i
    · subst hji
      have : (listed.setIfInBounds j true).getD j false = true := by simp [hs, hi]
      rw [this]; simp
    · rw [getD_set_ne false (fun e => hji e.symm)]
      simp [hji]
  rw [h1, List.length_filter_lt_length_iff_exists]
  exact ⟨i, by simp [hi]; simpa using hu, by simp⟩
theorem getD_set_iff {listed : Array Bool} {i j : Nat} (hi : i < listed.size) : (listed.setIfInBounds i true).getD j false = (listed.getD j false || j == i) := by
  by_cases hji : j = i
  · subst hji; simp [hi]
  · rw [getD_set_ne false (fun e => hji e.symm)]; simp [hji]
theorem OutPost.keep {F : Nat → Prop} {ρ ρ' : Rho} {n : Nat} {M : AMem} {w w' : World} {d : List Deferred} {Q : Exit → Act → World → Prop} {out : Out} (h : OutPost F ρ n M w d Q out) (h1 : RhoLe M.next ρ ρ') (h5 : Kept F w w') :
    OutPost F ρ' n M w' d Q out := by
  cases out with
  | norm s' M2 => exact fun ρ2 ca2 w2 q1 q2 q3 q4 q5 q6 => h ρ2 ca2 w2 (h1.trans q1 (Nat.le_refl _)) q2 q3 q4 (h5.trans q5) q6
  | pan v' M2 => exact fun ρ2 c2 ca2 w2 q1 q2 q3 q4 q5 q6 => h ρ2 c2 ca2 w2 (h1.trans q1 (Nat.le_refl _)) q2 q3 q4 (h5.trans q5) q6
theorem againAll_mem {P : Program} {ops : Array Oper} {M : AMem} : ∀ {es : List Ent}, againAll P ops M es → ∀ e ∈ es, again P ops M e := by
  intro es
  induction es with
  | nil => intro _ e he; simp at he
  | cons a es ih =>
    intro h e he
    rcases List.mem_cons.1 he with h1 | h1
    · subst h1; exact h.1
    · exact ih h.2 e h1
theorem evalH_again {P : Program} {S : FuncId → ASpec} {ops : Array Oper} {D : Draw} {r : List (Nat × List Nat)} {s : Slots} {M : AMem} {es : List Ent} {K : Out → Prop} (h : evalH P S ops D r s M es K) : againAll P ops M es := by
  cases r with
  | nil => exact h.1
  | cons p r => exact h.1
structure DI (P : Program) (S : FuncId → ASpec) (n : Nat) (ops : Array Oper) (D : Draw) (s0 : Slots) (M0 : AMem) (F : Nat → Prop) (KO : Out → Prop) (Q : Exit → Act → World → Prop)
    (listed : Array Bool) (lg : List (Nat × Value)) (es : List Ent) (r : List (Nat × List Nat)) (M : AMem) (ρ : Rho) (ca : Act) (w : World) : Prop where
  size : listed.size = ops.size
  order : D.order = lg.map Prod.fst ++ flatRest r
  hv : okDraw.heavyAll D r = true
  sub : ∀ i, listed.getD i false = true → i ∈ lg.map Prod.fst
  pend : ∀ i ∈ lg.map Prod.fst, listed.getD i false = false → Pend P ops s0 lg es i
  closed : ∀ i, listed.getD i false = true → ∀ j ∈ D.p i, listed.getD j false = true
  sr : SR ρ n (sl ops s0 (lg.filter fun p => listed.getD p.1 false)) ca
  sim : Sim F ρ M w
  next : M0.next ≤ M.next
  fp : FP ops es
  fl : ∀ e ∈ es, isF ops e → M0.next ≤ e.M.next ∧ e.M.next < M.next ∧ (listed.getD e.i false = false → ρ e.M.next = none)
  eval : evalH P S ops D r (sl ops s0 lg) M es KO
  out : ∀ out, KO out → OutPost F ρ n M0 w ca.defers Q out
section
variable {P : Program} {S : FuncId → ASpec} {n : Nat} {ops : Array Oper} {D : Draw} {s0 : Slots} {M0 : AMem} {F : Nat → Prop} {KO : Out → Prop} {Q : Exit → Act → World → Prop}
  {listed : Array Bool} {lg : List (Nat × Value)} {es : List Ent} {r : List (Nat × List Nat)} {M : AMem} {ρ : Rho} {ca : Act} {w : World}
theorem lg_nodup (hd : DrawOK ops D) (ho : D.order = lg.map Prod.fst ++ flatRest r) : (lg.map Prod.fst).Nodup ∧ ∀ i ∈ lg.map Prod.fst, i ∉ flatRest r := by
  have := hd.nodup
  rw [ho, List.nodup_append] at this
  exact ⟨this.1, fun i h1 h2 => this.2.2 i h1 i h2 rfl⟩
theorem DI.done (hd : DrawOK ops D) (h : DI P S n ops D s0 M0 F KO Q listed lg es r M ρ ca w) (hr : Region.ready .any ops listed = []) : Q .normal ca w := by
  have hall : ∀ i, i < ops.size → listed.getD i false = true := by
    intro i
    induction i using Nat.strongRecOn with
    | _ i ih =>
      intro hi
      cases hl : listed.getD i false with
      | true => rfl
      | false =>
        exfalso
        have : i ∈ Region.ready .any ops listed := by
          refine mem_ready.2 ⟨?_, ops[i], Array.getElem?_eq_getElem hi, fun e he hb => ?_⟩
          · have hi' : i < listed.size := h.size ▸ hi
            simp [hi'] at hl ⊢; exact hl
          · have hlow := hd.lower i hi e.on (by
              simp only [directs, Array.getElem?_eq_getElem hi, List.mem_filterMap]
              exact ⟨e, by simpa using he, by simp [hb]⟩)
            exact ih _ hlow (by omega)
        rw [hr] at this
        simp at this
  have hnil : r = [] := by
    cases hrr : r with
    | nil => rfl
    | cons p r' =>
      exfalso
      subst hrr
      have hp : p.1 ∈ flatRest (p :: r') := by simp [flatRest]
      have hlt := hd.bound p.1 (by rw [h.order]; exact List.mem_append_right _ hp)
      exact (lg_nodup hd h.order).2 _ (h.sub _ (hall _ hlt)) hp
  subst hnil
  have hf : lg.filter (fun p => listed.getD p.1 false) = lg := by
    rw [List.filter_eq_self]
    intro p hp
    exact hall _ (hd.bound _ (by rw [h.order]; exact List.mem_append_left _ (List.mem_map_of_mem hp)))
  have hs := h.sr
  rw [hf] at hs
  exact h.out _ h.eval.2 ρ ca w (.refl _ _) h.next hs h.sim (.refl _ _) rfl
theorem DI.light (hd : DrawOK ops D) (h : DI P S n ops D s0 M0 F KO Q listed lg es r M ρ ca w) {i k : Nat} {v : Value} (hi : i < ops.size) (hun : listed.getD i false = false) (hre : ∀ j ∈ D.p i, listed.getD j false = true) (hk : lg[k]? = some (i, v))
    {ρ' : Rho} {c : Value} {w' : World} (hρ : ∀ j, j < M0.next → ρ' j = ρ j) (hup : ∀ i pl, ρ i = some pl → ρ' i = some pl) (hv : VR ρ' v c) (hM : Sim F ρ' M w') (hkp : Kept F w w')
    (hfl : ∀ e ∈ es, isF ops e → e.i ≠ i → ρ' e.M.next = ρ e.M.next) (hdst : (dstOf ops i).all (fun d => decide (d < n)) = true) :
    DI P S n ops D s0 M0 F KO Q (listed.setIfInBounds i true) lg es r M ρ' (ca.put (dstOf ops i) c) w' := by
  have hsz : i < listed.size := h.size ▸ hi
  have hset := fun j => getD_set_iff (j := j) hsz
  have hsub : ∀ j, (listed.setIfInBounds i true).getD j false = true → listed.getD j false = true ∨ j = i := by
    intro j hj
    rw [hset] at hj
    simpa using hj
  have himem : i ∈ lg.map Prod.fst := List.mem_map.2 ⟨(i, v), List.mem_of_getElem? hk, rfl⟩
  refine ⟨by simp [h.size], h.order, h.hv, fun j hj => ?_, fun j hj hu => ?_, fun j hj q hq => ?_, ?_, hM, h.next, h.fp, fun e he hf => ?_, h.eval, fun out ho => ?_⟩
  · rcases hsub j hj with h1 | h1
    · exact h.sub j h1
    · exact h1 ▸ himem
  · rw [hset] at hu
    simp only [Bool.or_eq_false_iff] at hu
    exact h.pend j hj hu.1
  · rw [hset]
    rcases hsub j hj with h1 | h1
    · rw [h.closed j h1 q hq]; rfl
    · subst h1; rw [hre q hq]; rfl
  · have hs : SR ρ' n (upd (sl ops s0 (lg.filter fun p => listed.getD p.1 false)) (dstOf ops i) v) (ca.put (dstOf ops i) c) := (h.sr.mono hup).put hdst hv
    refine ⟨hs.size, fun t ht => ?_⟩
    have heq : sl ops s0 (lg.filter fun p => (listed.setIfInBounds i true).getD p.1 false) t = upd (sl ops s0 (lg.filter fun p => listed.getD p.1 false)) (dstOf ops i) v t := by
      show _ = sl ops (sl ops s0 (lg.filter fun p => listed.getD p.1 false)) [(i, v)] t
      rw [← sl_append]
      by_cases hw : dstOf ops i = some t
      ·
        have hord : ∀ (q : Nat) (p : Nat × Value), lg[q]? = some p → D.order[q]? = some p.1 := by
          intro q p hq
          have hlt : q < lg.length := (List.getElem?_eq_some_iff.1 hq).1
          rw [h.order, List.getElem?_append_left (by simpa using hlt)]
          simp [hq]
        have hklt : k < lg.length := (List.getElem?_eq_some_iff.1 hk).1
        have hin : t ∈ namesOf ops i := by
          have hoi : ops[i]? = some ops[i] := Array.getElem?_eq_getElem hi
          have hdo := hw
          rw [dstOf_eq hoi] at hdo
          simp [namesOf, hoi, hdo]
        have huniq : ∀ (q q' : Nat) (x : Nat), D.order[q]? = some x → D.order[q']? = some x → q = q' := by
          intro q q' x h1 h2
          obtain ⟨l1, e1⟩ := List.getElem?_eq_some_iff.1 h1
          obtain ⟨l2, e2⟩ := List.getElem?_eq_some_iff.1 h2
          have hp := List.pairwise_iff_getElem.1 hd.nodup
          rcases Nat.lt_trichotomy q q' with h | h | h
          · exact absurd (e1.trans e2.symm) (hp q q' l1 l2 h)
          · exact h
          · exact absurd (e2.trans e1.symm) (hp q' q l2 l1 h)
        have hdrop : ∀ p ∈ lg.drop (k + 1), writes ops t p = true → (listed.setIfInBounds i true).getD p.1 false = false ∧ listed.getD p.1 false = false := by
          intro p hp hwp
          obtain ⟨q, hq, hpq⟩ := List.getElem_of_mem hp
          have hq' : D.order[k + 1 + q]? = some p.1 := hord (k + 1 + q) p (by rw [← hpq, List.getElem_drop]; exact List.getElem?_eq_getElem _)
          have hne : i ≠ p.1 := by
            intro he
            have := huniq k (k + 1 + q) i (hord k _ hk) (he ▸ hq')
            omega
          have hdp : dstOf ops p.1 = some t := by simpa [writes] using hwp
          have hnl : listed.getD p.1 false = false := by
            cases hl : listed.getD p.1 false with
            | false => rfl
            | true =>
              exfalso
              rcases hd.apart i hi p.1 (hd.bound _ (List.mem_of_getElem? hq')) hne t hdp hin with h1 | h1
              · obtain ⟨q', hq2, hx⟩ := List.mem_take_iff_getElem.1 (hd.early k i (hord k _ hk) p.1 h1)
                have := huniq q' (k + 1 + q) p.1 (by rw [← hx]; exact List.getElem?_eq_getElem _) hq'
                omega
              · rw [h.closed _ hl i h1] at hun; cases hun
          exact ⟨by rw [hset, hnl]; simp; exact fun e => hne e.symm, hnl⟩
        apply sl_congr
        have hsplit : lg = lg.take k ++ (i, v) :: lg.drop (k + 1) := by
          have := List.drop_eq_getElem_cons hklt
          rw [(List.getElem?_eq_some_iff.1 hk).2] at this
          rw [← this, List.take_append_drop]
        have htk : ∀ p ∈ lg.take k, (listed.setIfInBounds i true).getD p.1 false = listed.getD p.1 false := by
          intro p hp
          obtain ⟨q, hq, hpq⟩ := List.mem_take_iff_getElem.1 hp
          have hq' := hord q p (by rw [← hpq]; exact List.getElem?_eq_getElem _)
          rw [hset]
          have : p.1 ≠ i := by
            intro he
            have := huniq q k i (he ▸ hq') (hord k _ hk)
            omega
          simp [this]
        have e1 : lg.filter (fun p => (listed.setIfInBounds i true).getD p.1 false) = (lg.take k).filter (fun p => listed.getD p.1 false) ++ (i, v) :: (lg.drop (k + 1)).filter (fun p => (listed.setIfInBounds i true).getD p.1 false) := by
          conv => lhs; rw [hsplit]
          rw [List.filter_append, List.filter_cons, if_pos (by simp [hsz]), List.filter_congr htk]
        have e2 : lg.filter (fun p => listed.getD p.1 false) = (lg.take k).filter (fun p => listed.getD p.1 false) ++ (lg.drop (k + 1)).filter (fun p => listed.getD p.1 false) := by
          conv => lhs; rw [hsplit]
          rw [List.filter_append, List.filter_cons, if_neg (by rw [hun]; simp)]
        have e3 : ((lg.drop (k + 1)).filter (fun p => (listed.setIfInBounds i true).getD p.1 false)).filter (writes ops t) = [] := by
          rw [List.filter_filter, List.filter_eq_nil_iff]
          intro p hp hcon
          simp only [Bool.and_eq_true] at hcon
          rw [(hdrop p hp hcon.1).1] at hcon
          exact Bool.false_ne_true hcon.2
        have e4 : ((lg.drop (k + 1)).filter (fun p => listed.getD p.1 false)).filter (writes ops t) = [] := by
          rw [List.filter_filter, List.filter_eq_nil_iff]
          intro p hp hcon
          simp only [Bool.and_eq_true] at hcon
          rw [(hdrop p hp hcon.1).2] at hcon
          exact Bool.false_ne_true hcon.2
        rw [e1, e2]
        simp only [List.filter_append, List.filter_cons, e3, e4, List.append_nil, List.filter_nil]
      · apply sl_congr
        have hwi : writes ops t (i, v) = false := by simp [writes, hw]
        simp only [List.filter_append, List.filter_cons, hwi, List.filter_nil, List.append_nil, Bool.false_eq_true, if_false]
        rw [List.filter_filter, List.filter_filter]
        apply List.filter_congr
        intro p hp
        by_cases hwp : writes ops t p = true
        · have : p.1 ≠ i := by
            intro he
            simp [writes, he, hw] at hwp
          have hb : (p.1 == i) = false := by simp [this]
          simp only [hset, hb, Bool.or_false]
        · simp [hwp]
    rw [heq]
    exact hs.get t ht
  · obtain ⟨h1, h2, h3⟩ := h.fl e he hf
    refine ⟨h1, h2, fun hu => ?_⟩
    rw [hset] at hu
    simp only [Bool.or_eq_false_iff, beq_eq_false_iff_ne] at hu
    rw [hfl e he hf hu.2]
    exact h3 hu.1
  · rw [Act.put_defers']
    exact (h.out out ho).keep hρ hkp
theorem pair_any {α : Type} {R : α → α → Prop} (hsym : ∀ a b, R a b → R b a) {l : List α} (h : l.Pairwise R) : ∀ a ∈ l, ∀ b ∈ l, a ≠ b → R a b := by
  induction h with
  | nil => intro a ha; simp at ha
  | cons h1 _ ih =>
    intro a ha b hb hab
    rcases List.mem_cons.1 ha with h | h <;> rcases List.mem_cons.1 hb with h' | h'
    · exact absurd (h.trans h'.symm) hab
    · subst h; exact h1 b h'
    · subst h'; exact hsym _ _ (h1 a h)
    · exact ih a h b h' hab
theorem mem_flatRest {h : Nat} {hs : List Nat} {r : List (Nat × List Nat)} {i : Nat} : i ∈ flatRest ((h, hs) :: r) ↔ i = h ∨ i ∈ hs ++ flatRest r := by
  simp [flatRest, or_assoc]
theorem DI.heavy {i : Nat} {hs : List Nat} (hok : ∀ i, i < ops.size → okOp n (aopOf ops i).op = true) (hd : DrawOK ops D) (h : DI P S n ops D s0 M0 F KO Q listed lg es ((i, hs) :: r) M ρ ca w) {v : Value} (hi : i < ops.size) (hun : listed.getD i false = false) (hre : ∀ j ∈ D.p i, listed.getD j false = true)
    {ρ' : Rho} {c : Value} {M2 : AMem} {w' : World} (hρ : RhoLe M.next ρ ρ') (hn : M.next ≤ M2.next) (hv : VR ρ' v c) (hM : Sim F ρ' M2 w') (hkp : Kept F w w') (hdst : (dstOf ops i).all (fun d => decide (d < n)) = true)
    {s' : Slots} {M' : AMem} {es' : List Ent} (hl : evalLights P ops hs (upd (sl ops s0 lg) (dstOf ops i) v) M2 (es.filter fun e => !(D.p i).contains e.i) = some (s', M', es')) (he : evalH P S ops D r s' M' es' KO) :
    ∃ lg', DI P S n ops D s0 M0 F KO Q (listed.setIfInBounds i true) lg' es' r M' ρ' (ca.put (dstOf ops i) c) w' := by
  have hsz : i < listed.size := h.size ▸ hi
  have hset := fun j => getD_set_iff (j := j) hsz
  have hup := hρ.up h.sim
  obtain ⟨hnd1, hnd2⟩ := lg_nodup hd h.order
  have hnd : (flatRest ((i, hs) :: r)).Nodup := by
    have := hd.nodup
    rw [h.order, List.nodup_append] at this
    exact this.2.1
  have hfr : flatRest ((i, hs) :: r) = i :: (hs ++ flatRest r) := by simp [flatRest]
  have hilg : i ∉ lg.map Prod.fst := fun hm => hnd2 i hm (by rw [hfr]; simp)
  have hhs : ∀ j ∈ hs, j ≠ i ∧ j ∉ lg.map Prod.fst ∧ j < ops.size := by
    intro j hj
    rw [hfr, List.nodup_cons] at hnd
    refine ⟨fun e => hnd.1 (e ▸ List.mem_append_left _ hj), fun hm => hnd2 j hm (by rw [hfr]; simp [hj]), hd.bound j ?_⟩
    rw [h.order, hfr]; simp [hj]
  obtain ⟨l2, g1, g2, g3, g4, g5, g6, g7, g8⟩ := lights_run (s0 := s0) (lg := lg ++ [(i, v)]) hok hs _ M2 _ _ _ _ hl (by rw [sl_append]; rfl) (fun j hj => (hhs j hj).2.2)
  have hlm : (lg ++ [(i, v)] ++ l2).map Prod.fst = lg.map Prod.fst ++ i :: hs := by simp [g1]
  have hsub : ∀ j, (listed.setIfInBounds i true).getD j false = true → listed.getD j false = true ∨ j = i := by
    intro j hj
    rw [hset] at hj
    simpa using hj
  refine ⟨lg ++ [(i, v)] ++ l2, by simp [h.size], by rw [hlm, h.order, hfr]; simp, ?_, fun j hj => ?_, fun j hj hu => ?_, fun j hj q hq => ?_, ?_, hM.ghost g3 g4, Nat.le_trans h.next (Nat.le_trans hn g3), ?_, fun e hem hf => ?_, g2 ▸ he, fun out ho => ?_⟩
  · have := h.hv
    simp only [okDraw.heavyAll, Bool.and_eq_true] at this
    exact this.2
  · rw [hlm]
    rcases hsub j hj with h1 | h1
    · exact List.mem_append_left _ (h.sub j h1)
    · subst h1; simp
  · rw [hset] at hu
    simp only [Bool.or_eq_false_iff, beq_eq_false_iff_ne] at hu
    rw [hlm] at hj
    rcases List.mem_append.1 hj with h1 | h1
    · rw [List.append_assoc]
      refine (h.pend j h1 hu.1).mono fun e hem hei => g6 e (List.mem_filter.2 ⟨hem, ?_⟩)
      cases hc : (D.p i).contains e.i with
      | false => rfl
      | true =>
        have : e.i ∈ D.p i := by simpa using hc
        have := hre _ this
        rw [hei, hu.1] at this
        cases this
    · rcases List.mem_cons.1 h1 with h2 | h2
      · exact absurd h2 hu.2
      · exact g5 j h2
  · rw [hset]
    rcases hsub j hj with h1 | h1
    · rw [h.closed j h1 q hq]; rfl
    · subst h1; rw [hre q hq]; rfl
  · have hf : (lg ++ [(i, v)] ++ l2).filter (fun p => (listed.setIfInBounds i true).getD p.1 false) = lg.filter (fun p => listed.getD p.1 false) ++ [(i, v)] := by
      rw [List.filter_append, List.filter_append]
      have e1 : lg.filter (fun p => (listed.setIfInBounds i true).getD p.1 false) = lg.filter (fun p => listed.getD p.1 false) := by
        apply List.filter_congr
        intro p hp
        have : (p.1 == i) = false := by
          simp only [beq_eq_false_iff_ne]
          exact fun e => hilg (e ▸ List.mem_map_of_mem hp)
        rw [hset, this, Bool.or_false]
      have e2 : l2.filter (fun p => (listed.setIfInBounds i true).getD p.1 false) = [] := by
        rw [List.filter_eq_nil_iff]
        intro p hp hcon
        have hm : p.1 ∈ hs := g1 ▸ List.mem_map_of_mem hp
        obtain ⟨q1, q2, _⟩ := hhs _ hm
        rcases hsub _ hcon with h1 | h1
        · exact q2 (h.sub _ h1)
        · exact q1 h1
      rw [e1, e2, List.append_nil]
      simp [hsz]
    rw [hf, sl_append]
    exact (h.sr.mono hup).put hdst hv
  · refine g8 (h.fp.filter _) fun e hem hf => ?_
    exact Nat.lt_of_lt_of_le (h.fl e (List.mem_filter.1 hem).1 hf).2.1 hn
  · rcases g7 e hem with h1 | ⟨h1, h2⟩
    · have hem' := (List.mem_filter.1 h1).1
      obtain ⟨q1, q2, q3⟩ := h.fl e hem' hf
      refine ⟨q1, by omega, fun hu => ?_⟩
      rw [hset] at hu
      simp only [Bool.or_eq_false_iff] at hu
      rw [hρ _ q2]
      exact q3 hu.1
    · refine ⟨Nat.le_trans h.next (Nat.le_trans hn h1), h2 hf, fun _ => ?_⟩
      cases hq : ρ' e.M.next with
      | none => rfl
      | some pl => have := hM.dom _ _ hq; omega
  · rw [Act.put_defers']
    exact (h.out out ho).keep (fun j hj => hρ j (by have := h.next; omega)) hkp
theorem drawn {rr : Option Nat} (hS : ∀ f, Sound P f (S f)) (hok : okRegion n ops = true) (hd : DrawOK ops D) : ∀ (fuel : Nat) (listed : Array Bool) (lg : List (Nat × Value)) (es : List Ent) (r : List (Nat × List Nat)) (M : AMem) (ρ : Rho) (ca : Act) (w : World),
    unl ops listed ≤ fuel → DI P S n ops D s0 M0 F KO Q listed lg es r M ρ ca w → wpAnyIn (FR rr) 0 P .any ops Q fuel listed ca w := by
  have hokj : ∀ (i : Nat) (o : Oper), ops[i]? = some o → okOp n o.op = true ∧ o.dst.all (fun d => decide (d < n)) = true ∧ (match o.guard with
      | none => true
      | some (j, _) => (((ops[j]?).bind (·.dst)).map fun d => decide (d < n)).getD false) = true := by
    intro i o ho
    obtain ⟨hlt, rfl⟩ := Array.getElem?_eq_some_iff.1 ho
    have := Array.all_eq_true.1 hok i hlt
    simp only [Bool.and_eq_true] at this
    exact ⟨this.1.1, this.1.2, this.2⟩
  have hokA : ∀ i, i < ops.size → okOp n (aopOf ops i).op = true := by
    intro i hi
    rw [aopOf_eq (Array.getElem?_eq_getElem hi)]
    exact (hokj i _ (Array.getElem?_eq_getElem hi)).1
  intro fuel
  induction fuel with
  | zero =>
    intro listed lg es r M ρ ca w hu h
    have hr : Region.ready .any ops listed = [] := by
      cases hrr : Region.ready .any ops listed with
      | nil => rfl
      | cons i l =>
        exfalso
        have hm : i ∈ Region.ready .any ops listed := by rw [hrr]; simp
        obtain ⟨h0, o, ho, _⟩ := mem_ready.1 hm
        have hlt := (Array.getElem?_eq_some_iff.1 ho).1
        have hsz : i < listed.size := h.size ▸ hlt
        have hun : listed.getD i false = false := by simp [hsz] at h0 ⊢; exact h0
        have := unl_set h.size hlt hun
        omega
    exact ⟨hr, h.done hd hr⟩
  | succ fuel ih =>
    intro listed lg es r M ρ ca w hu h
    refine ⟨fun hr => h.done hd hr, fun i him => ?_⟩
    obtain ⟨h0, o, ho, hdir⟩ := mem_ready.1 him
    have hi := (Array.getElem?_eq_some_iff.1 ho).1
    have hsz : i < listed.size := h.size ▸ hi
    have hun : listed.getD i false = false := by simp [hsz] at h0 ⊢; exact h0
    have hlt := unl_set h.size hi hun
    have hre : ∀ j ∈ D.p i, listed.getD j false = true := by
      have hdl : ∀ k ∈ directs ops i, listed.getD k false = true := by
        intro k hk
        simp only [directs, ho, List.mem_filterMap] at hk
        obtain ⟨e, he, hek⟩ := hk
        split at hek
        · rename_i hb
          cases hek
          exact hdir e (by simpa using he) hb
        · cases hek
      intro j hj
      rcases hd.pres i hi j hj with h1 | ⟨k, h1, h2⟩
      · exact hdl j h1
      · exact h.closed k (hdl k h1) j h2
    obtain ⟨hok1, hok2, hok3⟩ := hokj i o ho
    have hdst : (dstOf ops i).all (fun d => decide (d < n)) = true := by rw [dstOf_eq ho]; exact hok2
    have hsel : ∀ cs b, o.op ≠ .select cs b := by
      intro cs b he
      rw [he] at hok1
      simp [okOp] at hok1
    have hnd : ∀ c, o.op ≠ .defer c := by
      intro c he
      rw [he] at hok1
      simp [okOp] at hok1
    have haop := aopOf_eq ho
    have hoper : (aopOf ops i).oper.op = o.op ∧ (aopOf ops i).oper.dst = o.dst ∧ (aopOf ops i).oper.type = o.type := by rw [haop]; exact ⟨rfl, rfl, rfl⟩
    have hexec : ∀ ρ : Operand → Value, execOp ρ (aopOf ops i).oper = execOp ρ o := by
      intro ρ; rw [haop]; rfl
    have hwp : ∀ (ca : Act) (w : World) (K : Act → World → Prop), (aopOf ops i).oper.wpIn (FR rr) 0 P ca w K Q → o.wpIn (FR rr) 0 P ca w K Q := by
      intro ca w K hk
      refine ⟨fun _ _ => trivial, ?_⟩
      have := hk.2
      rw [Oper.semAt_eq _ _ _ (by rw [hoper.1]; exact hnd), hexec] at this
      rw [Oper.semAt_eq _ _ _ hnd]
      rw [haop] at this
      exact this
    unfold wpOpIn
    simp only [ho]
    by_cases hm : i ∈ lg.map Prod.fst
    · obtain ⟨k, v, hk, hpk⟩ := h.pend i hm hun
      have hklt : k < lg.length := (List.getElem?_eq_some_iff.1 hk).1
      have hpos : D.order[k]? = some i := by
        rw [h.order, List.getElem?_append_left (by simpa using hklt)]
        simp [hk]
      have hag := agree (s0 := s0) (L := fun j => listed.getD j false) hd h.order hi hun h.closed hre (Nat.le_of_lt hklt) hpos
      rcases hpk with ⟨rfl, hw⟩ | ⟨e, M1, hem, hei, hev, hes, hw, ha⟩
      · rw [← names_want ho hag] at hw
        rw [haop] at hw
        rw [wanted_of h.sr hok3 hw]
        simp only [Bool.false_eq_true, if_false]
        refine ⟨fun _ _ => trivial, ih _ lg es r M ρ _ w (by omega) ?_⟩
        have := h.light (c := undef) (w' := w) hd hi hun hre hk (fun _ _ => rfl) (fun _ _ h => h) (VR.undef ρ) h.sim (.refl _ _) (fun _ _ _ _ => rfl) hdst
        rw [dstOf_eq ho] at this
        exact this
      · rw [hes] at hw ha
        rw [← names_want ho hag] at hw
        have hcg : ∀ M, aop P (sl ops s0 (lg.filter fun p => listed.getD p.1 false)) M (aopOf ops i) = aop P (sl ops s0 (lg.take k)) M (aopOf ops i) := fun M => aop_congr (by rw [haop]; exact names_ops ho hag) (by rw [haop]; exact hsel)
        rw [← hcg] at ha
        have hw2 := hw
        rw [haop] at hw2
        rw [wanted_of h.sr hok3 hw2]
        simp only [if_true]
        refine hwp _ _ _ ?_
        have hnd' : ∀ c, (aopOf ops i).oper.op ≠ .defer c := by rw [hoper.1]; exact hnd
        have hstep : ∀ ρ' c w', (∀ j, j < M0.next → ρ' j = ρ j) → (∀ i pl, ρ i = some pl → ρ' i = some pl) → VR ρ' v c → Sim F ρ' M w' → Kept F w w' → (∀ e ∈ es, isF ops e → e.i ≠ i → ρ' e.M.next = ρ e.M.next) →
            wpAnyIn (FR rr) 0 P .any ops Q fuel (listed.setIfInBounds i true) (ca.put (aopOf ops i).oper.dst c) w' := by
          intro ρ' c w' q1 q2 q3 q4 q5 q6
          refine ih _ lg es r M ρ' _ w' (by omega) ?_
          have := h.light hd hi hun hre hk q1 q2 q3 q4 q5 q6 hdst
          rw [hoper.2.1, ← dstOf_eq ho]
          exact this
        have hagn := againAll_mem (evalH_again h.eval) e hem
        unfold again at hagn
        rw [hei] at hagn
        by_cases hf : floats (aopOf ops i).op = true
        · obtain ⟨vf, ob, hvf, hM1, hlive, hfl⟩ := aop_floats (n := n) hf (hokA i hi) ha
          have hnr : reckons (aopOf ops i).op = false := by
            cases hop : (aopOf ops i).op <;> rw [hop] at hf <;> simp [floats] at hf <;> rfl
          rw [hnr, if_neg (by simp), if_pos hf, hes, ← hcg, ha] at hagn
          simp only [hM1, AMem.get_alloc, if_true] at hagn
          obtain ⟨q1, q2, q3⟩ := h.fl e hem (by unfold isF; rw [hei]; exact hf)
          have hnone := q3 (by rw [hei]; exact hun)
          refine hfl.wp hnd' h.sr h.sim hnone q2 hagn hlive fun ρ' c w' p1 p2 p3 p4 p5 => ?_
          refine hstep ρ' c w' (fun j hj => p1 j (by omega)) p2 (hvf ▸ p3) p4 p5 fun e' he' hf' hne => p1 _ ?_
          have hsym : ∀ a ∈ es, ∀ b ∈ es, a ≠ b → (isF ops a → isF ops b → a.M.next ≠ b.M.next) := by
            intro a ha b hb hab
            exact pair_any (R := fun (e e' : Ent) => isF ops e → isF ops e' → e.M.next ≠ e'.M.next) (fun a b h h1 h2 e => h h2 h1 e.symm) h.fp a ha b hb hab
          exact hsym e' he' e hem (fun h => hne (by rw [h]; exact hei)) hf' (by unfold isF; rw [hei]; exact hf)
        · have hcur : aop P (sl ops s0 (lg.filter fun p => listed.getD p.1 false)) M (aopOf ops i) = some (v, M) := by
            by_cases hrk : reckons (aopOf ops i).op = true
            · exact (aop_reckons hrk ha).2 M
            · rw [if_neg hrk, if_neg hf, hes, hev, ← hcg] at hagn
              exact hagn
          refine (ok_aop _ (hokA i hi) hcur).wp (r := rr) (K' := fun res M' => res = .ret v ∧ M' = M) hnd' ⟨rfl, rfl⟩ F ρ ca w h.sr h.sim _ _ ?_
          rintro res M' ρ' c w' ⟨rfl, rfl⟩ p1 p2 p3 p4 p5
          exact hstep ρ' c w' (fun j hj => p1 j (Nat.lt_of_lt_of_le hj h.next)) (p1.up h.sim) p3 p4 p5 fun e' he' hf' _ => p1 _ (h.fl e' he' hf').2.1
    · cases hr : r with
      | nil =>
        exfalso
        have := hd.cover i hi
        rw [h.order, hr] at this
        simp [flatRest] at this
        exact hm (by simpa using this)
      | cons p r' =>
        obtain ⟨h', hs⟩ := p
        subst hr
        have hih : i = h' := by
          have := hd.cover i hi
          rw [h.order] at this
          rcases List.mem_append.1 this with h1 | h1
          · exact absurd h1 hm
          · rcases mem_flatRest.1 h1 with h2 | h2
            · exact h2
            · exfalso
              have hv := h.hv
              simp only [okDraw.heavyAll, Bool.and_eq_true, List.all_eq_true] at hv
              have h3 : h' ∈ D.p i := by simpa using hv.1 i h2
              exact (lg_nodup hd h.order).2 h' (h.sub _ (hre _ h3)) (mem_flatRest.2 (.inl rfl))
        subst hih
        have hpos : D.order[lg.length]? = some i := by
          rw [h.order, List.getElem?_append_right (by simp)]
          simp [flatRest]
        have hag := agree (s0 := s0) (L := fun j => listed.getD j false) hd h.order hi hun h.closed hre (Nat.le_refl _) hpos
        rw [List.take_length] at hag
        have hev := h.eval
        simp only [evalH] at hev
        obtain ⟨_, hev⟩ := hev
        split at hev
        · rename_i hw
          rw [← names_want ho hag] at hw
          rw [haop] at hw
          rw [wanted_of h.sr hok3 hw]
          simp only [if_true]
          refine hwp _ _ _ ?_
          have hev' := evalOp_congr (s' := sl ops s0 (lg.filter fun p => listed.getD p.1 false)) (by rw [haop]; exact hsel) (by rw [haop]; exact fun x hx => (names_ops ho hag x hx).symm) hev
          refine evalOp_wp (r := rr) hS _ (hokA i hi) hev' F ρ ca w h.sr h.sim _ _ ?_
          intro res M2 ρ' c w' hK p1 p2 p3 p4 p5
          cases res with
          | ret v =>
            simp only at hK ⊢
            split at hK
            · rename_i s' M' es' hl
              obtain ⟨lg', hDI⟩ := h.heavy hokA hd hi hun hre p1 p2 p3 p4 p5 hdst hl hK
              rw [hoper.2.1, ← dstOf_eq ho]
              exact ih _ lg' es' r' M' ρ' _ w' (by omega) hDI
            · exact hK.elim
          | pan v =>
            simp only at hK ⊢
            exact h.out _ hK ρ' c ca w' (fun j hj => p1 j (Nat.lt_of_lt_of_le hj h.next)) (Nat.le_trans h.next p2) p3 p4 p5 rfl
        · rename_i hw
          rw [← names_want ho hag] at hw
          rw [haop] at hw
          rw [wanted_of h.sr hok3 hw]
          simp only [Bool.false_eq_true, if_false]
          refine ⟨fun _ _ => trivial, ?_⟩
          split at hev
          · rename_i s' M' es' hl
            obtain ⟨lg', hDI⟩ := h.heavy (c := undef) (w' := w) hokA hd hi hun hre (.refl _ _) (Nat.le_refl _) (VR.undef ρ) h.sim (.refl _ _) hdst hl hev
            rw [← dstOf_eq ho]
            exact ih _ lg' es' r' M' ρ _ w (by omega) hDI
          · exact hev.elim
        · exact hev.elim
end
section
variable {P : Program} {r : Option Nat} {n : Nat} {s : Slots} {M : AMem} {ds : List Nat} {Q : APost}
theorem awp_draw {S : FuncId → ASpec} {id : Nat} {ops : Array Oper} (D : Draw) (hS : ∀ f, Sound P f (S f)) (hmx : P.follows .mixedOrders = true) (hok : okRegion n ops = true) (hd : okDraw ops D = true) (h : evalD P S ops D s M (OutQ Q s ds)) :
    awp P r n (.region id ops true) Q s M ds := by
  intro F ρ ca w hs hM hdr
  have hD := DrawOK.of hd
  refine wpIn_region_any hmx ?_
  unfold evalD at h
  split at h
  · rename_i s' M' es' hl
    have hok' : ∀ i, i < ops.size → okOp n (aopOf ops i).op = true := by
      intro i hi
      rw [aopOf_eq (Array.getElem?_eq_getElem hi)]
      have := Array.all_eq_true.1 hok i hi
      simp only [Bool.and_eq_true] at this
      exact this.1.1
    obtain ⟨l2, g1, g2, g3, g4, g5, g6, g7, g8⟩ := lights_run (s0 := s) (lg := []) hok' D.l0 s M [] s' M' es' hl rfl (fun i hi => hD.bound i (by simp [Draw.order, hi]))
    have hnl : ∀ i, (Array.replicate ops.size false).getD i false = false := by
      intro i
      rw [Array.getD_eq_getD_getElem?, Array.getElem?_replicate]
      split <;> rfl
    have hMw : Sim F ρ M { w with drawn := w.drawn + 1 } := hM.drew
    refine drawn (s0 := s) (M0 := M) (F := F) (KO := OutQ Q s ds) hS hok hD ops.size _ l2 es' D.rest M' ρ ca _ ?_ ⟨by simp, by rw [g1]; rfl, hD.heavy, (fun i hi => by rw [hnl] at hi; cases hi), (fun i hi _ => ?_), (fun i hi => by rw [hnl] at hi; cases hi), ?_, hMw.ghost g3 g4, g3, g8 List.Pairwise.nil (fun e he => by simp at he), fun e he hf => ?_, by rw [g2] at h; exact h, ?_⟩
    · unfold unl
      exact Nat.le_trans (List.length_filter_le _ _) (by simp)
    · rw [g1] at hi
      simpa using g5 i hi
    · have : l2.filter (fun p => (Array.replicate ops.size false).getD p.1 false) = [] := by
        rw [List.filter_eq_nil_iff]
        intro p _ hp
        rw [hnl] at hp
        cases hp
      rw [this]
      exact hs
    · rcases g7 e he with h1 | ⟨h1, h2⟩
      · simp at h1
      · refine ⟨h1, h2 hf, fun _ => ?_⟩
        cases hq : ρ e.M.next with
        | none => rfl
        | some pl => have := hM.dom _ _ hq; omega
    · intro out hQ
      have hk : Kept F w { w with drawn := w.drawn + 1 } := Kept.drew F w
      cases out with
      | norm s' M' =>
        intro ρ' ca' w' q1 q2 q3 q4 q5 q6
        exact ⟨ρ', .normal, s', M', ds, q1, q2, q4, hk.trans q5, q6 ▸ hdr.mono (q1.up hM), hQ, rfl, q3⟩
      | pan v M' =>
        intro ρ' c ca' w' q1 q2 q3 q4 q5 q6
        exact ⟨ρ', .pan v, s, M', ds, q1, q2, q4, hk.trans q5, q6 ▸ hdr.mono (q1.up hM), hQ, c, rfl, q3⟩
  · exact h.elim
end
end Go.Proofs.Ytdkdkpiemigfkaa
set_option linter.unusedVariables false
set_option linter.unusedSimpArgs false
namespace Go.Proofs.Ytdkdkpiemigfkaa
open Go
structure EA (P : Program) (S : FuncId → ASpec) (os : List AOp) (s : Slots) (M : AMem) (K : Out → Prop) : Prop where
  out : evalA P S os s M K
structure EH (P : Program) (S : FuncId → ASpec) (ops : Array Oper) (D : Draw) (r : List (Nat × List Nat)) (s : Slots) (M : AMem) (es : List Ent) (K : Out → Prop) : Prop where
  out : evalH P S ops D r s M es K
structure ED (P : Program) (S : FuncId → ASpec) (ops : Array Oper) (D : Draw) (s : Slots) (M : AMem) (K : Out → Prop) : Prop where
  out : evalD P S ops D s M K
theorem EA.eq {P : Program} {S : FuncId → ASpec} {os : List AOp} {s : Slots} {M : AMem} {K : Out → Prop} : EA P S os s M K = evalA P S os s M K := propext ⟨EA.out, EA.mk⟩
theorem EH.eq {P : Program} {S : FuncId → ASpec} {ops : Array Oper} {D : Draw} {r : List (Nat × List Nat)} {s : Slots} {M : AMem} {es : List Ent} {K : Out → Prop} : EH P S ops D r s M es K = evalH P S ops D r s M es K := propext ⟨EH.out, EH.mk⟩
def cfst : Code → Code | .seq x _ => x | _ => .skip
def csnd : Code → Code | .seq _ x => x | _ => .skip
def cthen : Code → Code | .cond _ x _ => x | _ => .skip
def celse : Code → Code | .cond _ _ x => x | _ => .skip
def cin : Code → Code | .block _ x => x | .loop x => x | _ => .skip
def bodyOf (f : Func) : Code := match f.body with | some c => c | none => .skip
def okOpL (n : Nat) (op : Op) : Bool :=
  op.operands.toList.all (okO n) && (match op with
    | .select .. | .defer _ | .go _ => false
    | .makeFunc fn _ _ => plainFn fn
    | _ => true)
theorem okOpL_eq (n : Nat) (op : Op) : okOp n op = okOpL n op := by
  unfold okOp okOpL
  rw [Array.all_toList]
  cases op <;> rfl
def okRegionL (n : Nat) (ops : Array Oper) : Bool :=
  ops.toList.all fun o => okOpL n o.op && o.dst.all (fun d => decide (d < n)) && (match o.guard with
    | none => true
    | some (j, _) => (((ops[j]?).bind (·.dst)).map fun d => decide (d < n)).getD false)
theorem okRegion_of {n : Nat} {ops : Array Oper} (h : okRegionL n ops = true) : okRegion n ops = true := by
  unfold okRegion
  unfold okRegionL at h
  rw [Array.all_toList] at h
  simp only [okOpL_eq]
  exact h
def gM (ops : Array Oper) : Option (Nat × Bool) → Option (Nat × Bool)
  | none => none
  | some (j, w) => match ops[j]? with
    | some ⟨some d, _, _, _, _, _⟩ => some (d, w)
    | _ => none
def oM (ops : Array Oper) : Oper → AOp
  | ⟨d, op, ty, _, _, g⟩ => ⟨d, op, ty, gM ops g⟩
theorem gM_eq (ops : Array Oper) (g : Option (Nat × Bool)) : gM ops g = g.bind fun jw => ((ops[jw.1]?).bind (·.dst)).map fun d => (d, jw.2) := by
  cases g with
  | none => rfl
  | some jw =>
    obtain ⟨j, w⟩ := jw
    show (match ops[j]? with | some ⟨some d, _, _, _, _, _⟩ => some (d, w) | _ => none) = ((ops[j]?).bind (·.dst)).map fun d => (d, w)
    cases h : ops[j]? with
    | none => rfl
    | some o =>
      obtain ⟨d, op, ty, a, b, c⟩ := o
      cases d <;> rfl
def compM (ops : Array Oper) : List AOp := ops.toList.map (oM ops)
theorem compM_eq (ops : Array Oper) : comp ops = compM ops := by
  unfold comp compM
  apply List.map_congr_left
  intro o _
  obtain ⟨d, op, ty, a, b, c⟩ := o
  simp only [oM, gM_eq]
def aopM (ops : Array Oper) (i : Nat) : AOp := match ops[i]? with
  | some o => oM ops o
  | none => ⟨none, .move (.const undef), 0, none⟩
theorem aopM_eq (ops : Array Oper) (i : Nat) : aopOf ops i = aopM ops i := by
  unfold aopOf aopM
  rw [compM_eq]
  unfold compM
  cases h : ops[i]? with
  | none =>
    have : ops.toList[i]? = none := by simpa using h
    simp [this]
  | some o =>
    have : ops.toList[i]? = some o := by simpa using h
    simp [this]
section
variable {P : Program} {r : Option Nat} {n : Nat} {s : Slots} {M : AMem} {ds : List Nat} {Q : APost} {S : FuncId → ASpec} {c : Code}
theorem at_seq (hc : c = .seq (cfst c) (csnd c)) (h : awp P r n (cfst c) (AThen (fun s M ds => awp P r n (csnd c) Q s M ds) Q) s M ds) : awp P r n c Q s M ds := by
  rw [hc]; exact awp_seq h
theorem at_region {id : Nat} {ops : Array Oper} (hS : ∀ f, Sound P f (S f)) (hc : c = .region id ops false) (hok : okRegionL n ops = true) (h : EA P S (compM ops) s M (OutQ Q s ds)) :
    awp P r n c Q s M ds := by
  rw [hc]; exact awp_region hS (okRegion_of hok) (compM_eq ops) h.out
theorem at_draw {id : Nat} {ops : Array Oper} (D : Draw) (hS : ∀ f, Sound P f (S f)) (hmx : P.follows .mixedOrders = true) (hc : c = .region id ops true) (hok : okRegionL n ops = true) (hd : okDraw ops D = true) (h : ED P S ops D s M (OutQ Q s ds)) :
    awp P r n c Q s M ds := by
  rw [hc]; exact awp_draw D hS hmx (okRegion_of hok) hd h.out
theorem at_cond {x : Operand} {t : Bool} (hc : c = .cond x (cthen c) (celse c)) (hx : okO n x = true) (ht : ev s x = .bool t) (h1 : t = true → awp P r n (cthen c) Q s M ds) (h2 : t = false → awp P r n (celse c) Q s M ds) : awp P r n c Q s M ds := by
  rw [hc]
  refine awp_cond hx ht ?_
  cases t with
  | true => exact h1 rfl
  | false => exact h2 rfl
theorem at_block {id : Nat} (hc : c = .block id (cin c)) (h : awp P r n (cin c) (ABlock id Q) s M ds) : awp P r n c Q s M ds := by
  rw [hc]; exact awp_block h
theorem at_skip (hc : c = .skip) (h : Q .normal s M ds) : awp P r n c Q s M ds := by rw [hc]; exact awp_skip h
theorem at_ret (hc : c = .ret) (h : Q .ret s M ds) : awp P r n c Q s M ds := by rw [hc]; exact awp_ret h
theorem at_exit {id : Nat} (hc : c = .exit id) (h : Q (.exit id) s M ds) : awp P r n c Q s M ds := by rw [hc]; exact awp_exit h
theorem at_loop (hc : c = .loop (cin c)) (I : Nat → Slots → AMem → List Nat → Prop) (k₀ : Nat) (h₀ : I k₀ s M ds)
    (round : ∀ k s M ds, I k s M ds → awp P r n (cin c) (AThen (fun s' M' ds' => ∃ k', k' < k ∧ I k' s' M' ds') Q) s M ds) : awp P r n c Q s M ds := by
  rw [hc]; exact awp_loop I k₀ h₀ round
end
def noS : FuncId → ASpec := fun _ _ _ _ => False
theorem noS_ok (P : Program) : ∀ f, Sound P f (noS f) := fun f => Sound.nothing P f
end Go.Proofs.Ytdkdkpiemigfkaa
set_option linter.unusedVariables false
set_option linter.unusedSimpArgs false
namespace Go.Proofs.Ytdkdkpiemigfkaa
open Go
section
variable {P : Program} {S : FuncId → ASpec} {s : Slots} {M M' : AMem} {K : Out → Prop} {os : List AOp} {d : Option Nat} {ty : TypeId} {g : Option (Nat × Bool)} {v : Value}
def azero (P : Program) (t : TypeId) : Option (List Value) :=
  match P.info? t with
  | some i => match i.zero with
    | some z => if flat z then some z.cells.toList else none
    | none => none
  | none => none
theorem a_mv {x : Operand} (h : ev s x = v) : aop P s M ⟨d, .move x, ty, g⟩ = some (v, M) := by subst h; rfl
theorem a_as {x : Operand} (h : ev s x = v) : aop P s M ⟨d, .assign x, ty, g⟩ = some (v, M) := by subst h; rfl
theorem a_pick {c a b : Operand} {t : Bool} (hc : ev s c = .bool t) (h : (if t then ev s a else ev s b) = v) : aop P s M ⟨d, .pick c a b, ty, g⟩ = some (v, M) := by
  subst h; simp only [aop, hc]
theorem a_bin {op : BinOp} {t u : TypeId} {x y : Operand} (h : abin op (ev s x) (ev s y) = some v) : aop P s M ⟨d, .binOp op t x y u, ty, g⟩ = some (v, M) := by
  simp only [aop, h]
theorem a_binq {op : BinOp} {t u : TypeId} {x y : Operand} (hn : abin op (ev s x) (ev s y) = none) (hp : aptrNil P op t (ev s x) (ev s y) = none) (h : apure P s (AOp.oper ⟨d, .binOp op t x y u, ty, g⟩) = some v) : aop P s M ⟨d, .binOp op t x y u, ty, g⟩ = some (v, M) := by
  simp only [aop, hn, hp, h]; rfl
theorem a_un {op : UnOp} {t : TypeId} {x : Operand} (h : aun op (ev s x) = some v) : aop P s M ⟨d, .unOp op t x, ty, g⟩ = some (v, M) := by
  simp only [aop, h]; rfl
theorem a_alloc {t : TypeId} {cs : List Value} (h : azero P t = some cs) : aop P s M ⟨d, .alloc t, ty, g⟩ = some (newPtr M, M.alloc (.cells cs true)) := by
  unfold azero at h
  split at h
  · rename_i i hi
    split at h
    · rename_i z hz
      split at h
      · rename_i hf
        cases h
        simp only [aop, hi, hz, hf, if_true]
      · cases h
    · cases h
  · cases h
theorem a_box {t : TypeId} {x : Operand} {cs : List Value} (h : (ev s x).cells.toList = cs) : aop P s M ⟨d, .box t x, ty, g⟩ = some (newPtr M, M.alloc (.cells cs true)) := by
  subst h; rfl
theorem a_build {t : TypeId} {ps : Array (Nat × Operand)} {cs : List Value} (h : abuild P t (ps.toList.map fun p => (p.1, ev s p.2)) = some cs) : aop P s M ⟨d, .build t ps, ty, g⟩ = some (.agg cs.toArray, M) := by
  simp only [aop, h]; rfl
theorem a_bslice {t : TypeId} {len e : Nat} {ps : Array (Nat × Operand)} {cs : List Value} (h : abuildSlice P t len (ps.toList.map fun p => (p.1, ev s p.2)) = some (e, cs)) :
    aop P s M ⟨d, .buildSlice t len ps, ty, g⟩ = some (.slice (some ⟨M.next, 0, none⟩) len e, M.alloc (.cells cs true)) := by
  simp only [aop, h]; rfl
theorem a_load {t : TypeId} {a : Operand} {id off : Nat} {cs : List Value} {own : Bool} (ha : ev s a = .pointer (some ⟨id, off, none⟩)) (hg : M.get id = .cells cs own) (h : aload P t cs off = some v) : aop P s M ⟨d, .load t a, ty, g⟩ = some (v, M) := by
  simp only [aop, ha, hg, h]; rfl
theorem a_store {t : TypeId} {a x : Operand} {id off : Nat} {cs cs' : List Value} {u : Value} (ha : ev s a = .pointer (some ⟨id, off, none⟩)) (hg : M.get id = .cells cs true) (hx : ev s x = u) (h : astore P t cs off u = some cs') : aop P s M ⟨d, .store t a x, ty, g⟩ = some (undef, M.set id (.cells cs' true)) := by
  simp only [aop, ha, hg, hx, h]; rfl
theorem a_fa {t : TypeId} {x : Operand} {f : Nat} (h : afieldAddr P t (ev s x) f = some v) : aop P s M ⟨d, .fieldAddr t x f, ty, g⟩ = some (v, M) := by
  simp only [aop, h]; rfl
theorem a_ia {t : TypeId} {x y : Operand} (h : aindexAddr P t (ev s x) (ev s y) = some v) : aop P s M ⟨d, .indexAddr t x y, ty, g⟩ = some (v, M) := by
  simp only [aop, h]; rfl
theorem a_slice {t : TypeId} {x : Operand} {lo hi : Option Operand} (h : aslice P s M t (ev s x) lo hi = some v) : aop P s M ⟨d, .slice t x lo hi none, ty, g⟩ = some (v, M) := by
  simp only [aop, h]; rfl
theorem a_ext {x : Operand} {k : Nat} {vs : Array Value} (hx : ev s x = .tuple vs) (h : vs[k]? = some v) : aop P s M ⟨d, .extract x k, ty, g⟩ = some (v, M) := by
  simp only [aop, hx, h]; rfl
theorem a_index {t : TypeId} {x y : Operand} (h : aindex P t (ev s x) (ev s y) = some v) : aop P s M ⟨d, .index t x y, ty, g⟩ = some (v, M) := by
  simp only [aop, h]; rfl
theorem a_mkf {fn : Fn} {f c : Array Operand} (h : Value.func fn (f.map (ev s)) (c.map (ev s)) = v) : aop P s M ⟨d, .makeFunc fn f c, ty, g⟩ = some (v, M) := by
  subst h; rfl
theorem a_mkmap {t : TypeId} : aop P s M ⟨d, .makeMap t none, ty, g⟩ = some (.map (some M.next), M.alloc (.map [])) := rfl
theorem a_mks {t : TypeId} {l c : Operand} (h : amakeSlice P M t (ev s l) (ev s c) = some (v, M')) : aop P s M ⟨d, .makeSlice t l c, ty, g⟩ = some (v, M') := by
  simp only [aop, h]
theorem a_conv {t u : TypeId} {x : Operand} (h : aconv P M t u (ev s x) = some (v, M')) : aop P s M ⟨d, .convert t u x, ty, g⟩ = some (v, M') := by
  simp only [aop, h]
theorem a_look {t : TypeId} {x y : Operand} {ok : Bool} (h : alookup P M t (ev s x) (ev s y) ok = some v) : aop P s M ⟨d, .lookup t x y ok, ty, g⟩ = some (v, M) := by
  simp only [aop, h]; rfl
theorem a_mupd {t : TypeId} {x y u : Operand} (h : amapUpdate P M t (ev s x) (ev s y) (ev s u) = some M') : aop P s M ⟨d, .mapUpdate t x y u, ty, g⟩ = some (undef, M') := by
  simp only [aop, h]; rfl
theorem a_len {x : Operand} {t : TypeId} (h : alen P M t (ev s x) = some v) : aop P s M ⟨d, .call ⟨.builtin .len, #[x], #[t]⟩, ty, g⟩ = some (v, M) := by
  simp only [aop, acall, h]; rfl
theorem a_append {x y : Operand} {t tx : TypeId} (h : aappendOp P M t tx (ev s x) (ev s y) = some (v, M')) : aop P s M ⟨d, .call ⟨.builtin .append, #[x, y], #[t, tx]⟩, ty, g⟩ = some (v, M') := by
  simp only [aop, acall, h]
theorem a_copy {x y : Operand} {t tx : TypeId} (h : acopyOp P M t (ev s x) (ev s y) = some (v, M')) : aop P s M ⟨d, .call ⟨.builtin .copy, #[x, y], #[t, tx]⟩, ty, g⟩ = some (v, M') := by
  simp only [aop, acall, h]
def plainOp : Op → Bool
  | .panic _ => false
  | .call c => match c.callee with
    | .value _ => false
    | _ => true
  | _ => true
theorem s_op {op : Op} (h : aop P s M ⟨d, op, ty, none⟩ = some (v, M')) (hp : plainOp op = true) (k : EA P S os (upd s d v) M' K) : EA P S (⟨d, op, ty, none⟩ :: os) s M K := by
  obtain ⟨k⟩ := k
  refine ⟨?_⟩
  show evalOp P S s M ⟨d, op, ty, none⟩ _
  cases op with
  | call c =>
    simp only [evalOp]
    cases hc : c.callee with
    | value f => simp [plainOp, hc] at hp
    | _ => simp only [h]; exact k
  | panic x => simp [plainOp] at hp
  | _ => simp only [evalOp, h]; exact k
theorem evalOp_g {op : Op} {K' : Res → AMem → Prop} (h : evalOp P S s M ⟨d, op, ty, none⟩ K') : evalOp P S s M ⟨d, op, ty, g⟩ K' := by
  have haop : aop P s M ⟨d, op, ty, none⟩ = aop P s M ⟨d, op, ty, g⟩ := rfl
  cases op with
  | call c =>
    simp only [evalOp] at h ⊢
    cases hc : c.callee with
    | value f => rw [hc] at h; exact h
    | _ => rw [hc] at h; exact h
  | _ => exact h
theorem s_take {op : Op} (hg : wantA g s = some true) (k : EA P S (⟨d, op, ty, none⟩ :: os) s M K) : EA P S (⟨d, op, ty, g⟩ :: os) s M K := by
  have k' : evalOp P S s M ⟨d, op, ty, none⟩ _ := k.out
  refine ⟨?_⟩
  simp only [evalA, hg]
  exact evalOp_g k'
theorem s_leave {op : Op} (hg : wantA g s = some false) (k : EA P S os (upd s d undef) M K) : EA P S (⟨d, op, ty, g⟩ :: os) s M K := by
  refine ⟨?_⟩
  simp only [evalA, hg]
  exact k.out
theorem w_true {d : Nat} {b want : Bool} (h : s d = .bool b) (hb : b = want) : wantA (some (d, want)) s = some true := by
  subst hb; simp [wantA, h]
theorem w_false {d : Nat} {b want : Bool} (h : s d = .bool b) (hb : b = !want) : wantA (some (d, want)) s = some false := by
  subst hb; simp [wantA, h]
theorem s_call {f : Operand} {xs : Array Operand} {ts : Array TypeId} {fid : FuncId} {first cap : Array Value} (hf : ev s f = .func (.func fid) first cap) {args : List Value} (ha : first.toList ++ xs.toList.map (ev s) ++ cap.toList = args)
    (k : S fid args M fun res M' => match res with
      | .ret v => EA P S os (upd s d v) M' K
      | .pan v => K (.pan v M')) : EA P S (⟨d, .call ⟨.value f, xs, ts⟩, ty, none⟩ :: os) s M K := by
  refine ⟨?_⟩
  simp only [EA.eq] at k
  show evalOp P S s M ⟨d, .call ⟨.value f, xs, ts⟩, ty, none⟩ _
  simp only [evalOp, hf, ha]
  exact k
theorem s_end (k : ∀ s', s' = s → K (.norm s' M)) : EA P S [] s M K := ⟨k s rfl⟩
theorem o_norm {Q : APost} {s0 : Slots} {ds : List Nat} (h : Q .normal s M ds) : OutQ Q s0 ds (.norm s M) := h
theorem t_norm {X : Slots → AMem → List Nat → Prop} {Q : APost} {ds : List Nat} (h : X s M ds) : AThen X Q .normal s M ds := h
theorem t_ret {X : Slots → AMem → List Nat → Prop} {Q : APost} {ds : List Nat} (h : Q .ret s M ds) : AThen X Q .ret s M ds := h
theorem t_exit {X : Slots → AMem → List Nat → Prop} {Q : APost} {ds : List Nat} {i : Nat} (h : Q (.exit i) s M ds) : AThen X Q (.exit i) s M ds := h
theorem b_norm {Q : APost} {ds : List Nat} {i : Nat} (h : Q .normal s M ds) : ABlock i Q .normal s M ds := h
theorem b_ret {Q : APost} {ds : List Nat} {i : Nat} (h : Q .ret s M ds) : ABlock i Q .ret s M ds := h
theorem b_here {Q : APost} {ds : List Nat} {i : Nat} (h : Q .normal s M ds) : ABlock i Q (.exit i) s M ds := by
  show (if i = i then _ else _)
  rw [if_pos rfl]; exact h
structure LK (P : Program) (ops : Array Oper) (ls : List Nat) (s : Slots) (M : AMem) (es : List Ent) (k : Slots → AMem → List Ent → Prop) : Prop where
  out : match evalLights P ops ls s M es with
  | some (s', M', es') => k s' M' es'
  | none => False
def lightsK (P : Program) (ops : Array Oper) (ls : List Nat) (s : Slots) (M : AMem) (es : List Ent) (k : Slots → AMem → List Ent → Prop) : Prop :=
  match evalLights P ops ls s M es with
  | some (s', M', es') => k s' M' es'
  | none => False
theorem LK.eq {ops : Array Oper} {ls : List Nat} {es : List Ent} {k : Slots → AMem → List Ent → Prop} : LK P ops ls s M es k = lightsK P ops ls s M es k := propext ⟨LK.out, LK.mk⟩
theorem d_start {ops : Array Oper} {D : Draw} (h : LK P ops D.l0 s M [] fun s' M' es' => EH P S ops D D.rest s' M' es' K) : ED P S ops D s M K := by
  refine ⟨?_⟩
  simp only [LK.eq, EH.eq] at h
  unfold lightsK at h
  unfold evalD
  split at h
  · rename_i h1; first | exact h | (rw [h1]; exact h)
  · exact h.elim
theorem l_nil {ops : Array Oper} {es : List Ent} {k : Slots → AMem → List Ent → Prop} (h : k s M es) : LK P ops [] s M es k := ⟨h⟩
theorem l_op {ops : Array Oper} {i : Nat} {is : List Nat} {es : List Ent} {k : Slots → AMem → List Ent → Prop} {op : Op} (hi : aopM ops i = ⟨d, op, ty, g⟩) (hg : wantA g s = some true) (h : aop P s M ⟨d, op, ty, g⟩ = some (v, M')) (hf : floats op = false)
    (hk : LK P ops is (upd s d v) M (⟨i, s, v, M⟩ :: es) k) (hd : dstOf ops i = d) : LK P ops (i :: is) s M es k := by
  simp only [LK.eq] at hk ⊢
  unfold lightsK at hk ⊢
  simp only [evalLights, aopM_eq, hi, hg, h, hf, hd, Bool.false_eq_true, if_false]
  exact hk
theorem l_new {ops : Array Oper} {i : Nat} {is : List Nat} {es : List Ent} {k : Slots → AMem → List Ent → Prop} {op : Op} (hi : aopM ops i = ⟨d, op, ty, g⟩) (hg : wantA g s = some true) (h : aop P s M ⟨d, op, ty, g⟩ = some (v, M')) (hf : floats op = true)
    (hk : LK P ops is (upd s d v) M' (⟨i, s, v, M⟩ :: es) k) (hd : dstOf ops i = d) : LK P ops (i :: is) s M es k := by
  simp only [LK.eq] at hk ⊢
  unfold lightsK at hk ⊢
  simp only [evalLights, aopM_eq, hi, hg, h, hf, hd, if_true]
  exact hk
theorem h_end {ops : Array Oper} {D : Draw} {es : List Ent} (ha : againAll P ops M es) (k : ∀ s', s' = s → K (.norm s' M)) : EH P S ops D [] s M es K := ⟨ha, k s rfl⟩
theorem h_op {ops : Array Oper} {D : Draw} {es es2 : List Ent} {i : Nat} {hs : List Nat} {r : List (Nat × List Nat)} {a : AOp} (ha : againAll P ops M es) (hi : aopM ops i = a) (hd : dstOf ops i = a.dst) (hf : (es.filter fun e => !(D.p i).contains e.i) = es2)
    (k : EA P S [a] s M fun out => match out with
      | .norm s' M' => LK P ops hs s' M' es2 fun s2 M2 es3 => EH P S ops D r s2 M2 es3 K
      | .pan v M' => K (.pan v M')) : EH P S ops D ((i, hs) :: r) s M es K := by
  refine ⟨?_⟩
  simp only [EA.eq, LK.eq, EH.eq] at k
  rw [← aopM_eq] at hi
  subst hi hf
  refine ⟨ha, ?_⟩
  simp only [evalA] at k
  rw [hd]
  split at k
  · rename_i hw
    rw [hw]
    simp only [lightsK] at k
    refine cast (congrArg (evalOp P S s M (aopOf ops i)) ?_) k
    funext res M2
    cases res <;> rfl
  · rename_i hw
    rw [hw]
    simp only [lightsK] at k ⊢
    exact k
  · exact k.elim
theorem again_nil {ops : Array Oper} : againAll P ops M [] := trivial
theorem again_r {ops : Array Oper} {e : Ent} {es : List Ent} (hr : reckons (aopM ops e.i).op = true) (k : againAll P ops M es) : againAll P ops M (e :: es) := ⟨by rw [← aopM_eq] at hr; unfold again; rw [if_pos hr]; trivial, k⟩
theorem again_l {ops : Array Oper} {e : Ent} {es : List Ent} {a : AOp} (hi : aopM ops e.i = a) (hr : (reckons a.op || floats a.op) = false) (h : aop P e.s M a = some (e.v, M)) (k : againAll P ops M es) : againAll P ops M (e :: es) := by
  rw [← aopM_eq] at hi
  subst hi
  simp only [Bool.or_eq_false_iff] at hr
  exact ⟨by unfold again; rw [if_neg (by rw [hr.1]; simp), if_neg (by rw [hr.2]; simp)]; exact h, k⟩
theorem again_f {ops : Array Oper} {e : Ent} {es : List Ent} {a : AOp} (hi : aopM ops e.i = a) (hr : reckons a.op = false) (hf : floats a.op = true) (h : aop P e.s e.M a = some (v, M')) (hg : M.get e.M.next = M'.get e.M.next) (k : againAll P ops M es) : againAll P ops M (e :: es) := by
  rw [← aopM_eq] at hi
  subst hi
  exact ⟨by unfold again; rw [if_neg (by rw [hr]; simp), if_pos hf, h]; exact hg, k⟩
end
end Go.Proofs.Ytdkdkpiemigfkaa
set_option linter.unusedVariables false
set_option linter.unusedSimpArgs false
namespace Go.Proofs.Ytdkdkpiemigfkaa
open Go
theorem wrap_i64 {a : Int} (h1 : -9223372036854775808 ≤ a) (h2 : a ≤ 9223372036854775807) : IntKind.i64.wrap a = a := by
  simp only [IntKind.wrap, IntKind.bits, IntKind.signed]
  simp
  omega
theorem wrap_u32 {a : Int} (h1 : 0 ≤ a) (h2 : a ≤ 4294967295) : IntKind.u32.wrap a = a := by
  simp only [IntKind.wrap, IntKind.bits, IntKind.signed]
  simp
  omega
theorem wrap_u8 {a : Int} (h1 : 0 ≤ a) (h2 : a ≤ 255) : IntKind.u8.wrap a = a := by
  simp only [IntKind.wrap, IntKind.bits, IntKind.signed]
  simp
  omega
theorem wrap_u16 {a : Int} (h1 : 0 ≤ a) (h2 : a ≤ 65535) : IntKind.u16.wrap a = a := by
  simp only [IntKind.wrap, IntKind.bits, IntKind.signed]
  simp
  omega
theorem wrap_u64 {a : Int} (h1 : 0 ≤ a) (h2 : a ≤ 18446744073709551615) : IntKind.u64.wrap a = a := by
  simp only [IntKind.wrap, IntKind.bits, IntKind.signed]
  simp
  omega
theorem wrap_i32 {a : Int} (h1 : -2147483648 ≤ a) (h2 : a ≤ 2147483647) : IntKind.i32.wrap a = a := by
  simp only [IntKind.wrap, IntKind.bits, IntKind.signed]
  simp
  omega
section
variable {k : IntKind} {a b : Int} {x y : ByteArray}
theorem abin_add : abin .add (.int k a) (.int k b) = some (.int k (k.wrap (a + b))) := by simp [abin]
theorem abin_sub : abin .sub (.int k a) (.int k b) = some (.int k (k.wrap (a - b))) := by simp [abin]
theorem abin_mul : abin .mul (.int k a) (.int k b) = some (.int k (k.wrap (a * b))) := by simp [abin]
theorem abin_quo (h : b ≠ 0) : abin .quo (.int k a) (.int k b) = some (.int k (k.wrap (a.tdiv b))) := by simp [abin, h]
theorem abin_rem (h : b ≠ 0) : abin .rem (.int k a) (.int k b) = some (.int k (a.tmod b)) := by simp [abin, h]
theorem abin_and : abin .and (.int k a) (.int k b) = some (.int k (abits .and k a b)) := by simp [abin]
theorem abin_or : abin .or (.int k a) (.int k b) = some (.int k (abits .or k a b)) := by simp [abin]
theorem abin_eql : abin .eql (.int k a) (.int k b) = some (.bool (decide (a = b))) := by simp [abin]
theorem abin_neq : abin .neq (.int k a) (.int k b) = some (.bool (!decide (a = b))) := by simp [abin]
theorem abin_lss : abin .lss (.int k a) (.int k b) = some (.bool (decide (a < b))) := by simp [abin]
theorem abin_leq : abin .leq (.int k a) (.int k b) = some (.bool (decide (a ≤ b))) := by simp [abin]
theorem abin_gtr : abin .gtr (.int k a) (.int k b) = some (.bool (decide (b < a))) := by simp [abin]
theorem abin_geq : abin .geq (.int k a) (.int k b) = some (.bool (decide (b ≤ a))) := by simp [abin]
theorem abin_shl {k' : IntKind} (h : 0 ≤ b) : abin .shl (.int k a) (.int k' b) = some (.int k (k.wrap (a * 2 ^ (min b.toNat k.bits)))) := by
  have : ¬ b < 0 := by omega
  simp [abin, this]
theorem abin_sadd (h : ((x.size + y.size : Nat) : Int) ≤ 9223372036854775807) : abin .add (.string x) (.string y) = some (asString (x.data.toList ++ y.data.toList)) := by simp only [abin, if_pos h]
theorem abin_seql : abin .eql (.string x) (.string y) = some (.bool (decide (x.data.toList = y.data.toList))) := by simp [abin]
theorem abin_sneq : abin .neq (.string x) (.string y) = some (.bool (!decide (x.data.toList = y.data.toList))) := by simp [abin]
end
section
variable {P : Program} {M : AMem} {t : TypeId} {x y : List UInt8} {b : Int} {k : IntKind} {s : Slots}
theorem as_size : (⟨x.toArray⟩ : ByteArray).size = x.length := by simp [ByteArray.size]
theorem abin_aadd (h : ((x.length + y.length : Nat) : Int) ≤ 9223372036854775807) : abin .add (asString x) (asString y) = some (asString (x ++ y)) := by
  have : ((((⟨x.toArray⟩ : ByteArray).size + (⟨y.toArray⟩ : ByteArray).size : Nat)) : Int) ≤ 9223372036854775807 := by rw [as_size, as_size]; exact h
  simp only [asString]; rw [abin_sadd this]; rfl
theorem abin_aeql : abin .eql (asString x) (asString y) = some (.bool (decide (x = y))) := by simp only [asString]; rw [abin_seql]
theorem abin_aneq : abin .neq (asString x) (asString y) = some (.bool (!decide (x = y))) := by simp only [asString]; rw [abin_sneq]
theorem alen_as (h : P.underlying t = some .string) : alen P M t (asString x) = some (.int .i64 (x.length : Nat)) := by simp only [alen, h, asString]
theorem aindex_as (h : P.underlying t = some .string) {c : UInt8} (h0 : 0 ≤ b) (hc : x[b.toNat]? = some c) : aindex P t (asString x) (.int k b) = some (.int .u8 c.toNat) := by
  simp only [aindex, h, asString, if_pos h0, hc]; rfl
theorem aslice_as (h : P.underlying t = some .string) {lo hi : Option Operand} {l r : Int} (hl : abound s 0 lo = some l) (hr : abound s (x.length : Nat) hi = some r) (h0 : 0 ≤ l) (h1 : l ≤ r) (h2 : r ≤ x.length) :
    aslice P s M t (asString x) lo hi = some (asString ((x.drop l.toNat).take (r - l).toNat)) := by
  have e : (⟨x.toArray⟩ : ByteArray).size = x.length := as_size
  simp only [aslice, h, asString, e, hl, hr, h0, h1, h2, and_self, if_true]
end
theorem alen_str {P : Program} {M : AMem} {t : TypeId} {x : ByteArray} (h : P.underlying t = some .string) : alen P M t (.string x) = some (.int .i64 (x.data.toList.length : Nat)) := by simp only [alen, h]
theorem alen_slice {P : Program} {M : AMem} {t el : TypeId} {a : Option Addr} {n e : Nat} (h : P.underlying t = some (.slice el)) : alen P M t (.slice a n e) = some (.int .i64 n) := by simp only [alen, h]
section
variable {M : AMem} {o : AObj} {i k : Nat}
theorem get_new : (M.alloc o).get M.next = o := by simp [AMem.get_alloc]
theorem get_at (h : i = M.next) : (M.alloc o).get i = o := by subst h; exact get_new
theorem get_old (h : i ≠ M.next) : (M.alloc o).get i = M.get i := by simp [AMem.get_alloc, h]
theorem get_put : (M.set k o).get k = o := by simp [AMem.get_set]
theorem get_else (h : i ≠ k) : (M.set k o).get i = M.get i := by simp [AMem.get_set, h]
end
section
variable {M : AMem} {a b c : AObj}
theorem g2_0 : ((M.alloc a).alloc b).get M.next = a := by rw [get_old (by simp), get_new]
theorem g2_1 : ((M.alloc a).alloc b).get (M.next + 1) = b := get_new (M := M.alloc a)
theorem g3_0 : (((M.alloc a).alloc b).alloc c).get M.next = a := by rw [get_old (by simp; omega), g2_0]
theorem g3_1 : (((M.alloc a).alloc b).alloc c).get (M.next + 1) = b := by rw [get_old (by simp), g2_1]
theorem g3_2 : (((M.alloc a).alloc b).alloc c).get (M.next + 1 + 1) = c := get_new (M := (M.alloc a).alloc b)
end
section
variable {P : Program} {fn : Func} {R : Res → AMem → Prop} {s : Slots} {M : AMem} {v : Value} {vs : List Value} {rs : List ResultVar}
theorem bq_ret (hr : fn.results.toList = rs) (h : aresults P s M rs = some vs) (k : R (.ret (pack vs)) M) : BodyQ P fn R .ret s M [] := ⟨rfl, vs, by rw [hr]; exact h, k⟩
theorem bq_norm (hr : fn.results.toList = rs) (h : aresults P s M rs = some vs) (k : R (.ret (pack vs)) M) : BodyQ P fn R .normal s M [] := ⟨rfl, vs, by rw [hr]; exact h, k⟩
theorem ar_tmp {t : Nat} (h : s t = v) : aresult P s M (.tmp t) = some v := by subst h; rfl
theorem ar_cell {a : Nat} {t : TypeId} {id off : Nat} {cs : List Value} {own : Bool} (ha : s a = .pointer (some ⟨id, off, none⟩)) (hg : M.get id = .cells cs own) (h : aload P t cs off = some v) : aresult P s M (.cell a t) = some v := by
  simp only [aresult, ha, hg, h]
theorem ars_nil : aresults P s M [] = some [] := rfl
theorem ars_cons {r : ResultVar} (h : aresult P s M r = some v) (hs : aresults P s M rs = some vs) : aresults P s M (r :: rs) = some (v :: vs) := by simp only [aresults, h, hs]
end
end Go.Proofs.Ytdkdkpiemigfkaa
set_option linter.unusedVariables false
set_option linter.unusedSimpArgs false
namespace Go.Proofs.Ytdkdkpiemigfkaa
open Go
def Row (M : AMem) (e : Nat) (v : Value) (len : Nat) (cs : List Value) : Prop :=
  cs.length = len * e ∧ ((v = .slice none 0 0 ∧ len = 0) ∨ ∃ id off all own, v = .slice (some ⟨id, off, none⟩) len e ∧ id < M.next ∧ M.get id = .cells all own ∧ off + len * e ≤ all.length ∧ cs = (all.drop off).take (len * e))
def Own (M : AMem) (lo e : Nat) (v : Value) (len : Nat) (cs : List Value) : Prop :=
  cs.length = len * e ∧ ((v = .slice none 0 0 ∧ len = 0) ∨ ∃ id, v = .slice (some ⟨id, 0, none⟩) len e ∧ lo ≤ id ∧ id < M.next ∧ M.get id = .cells cs true)
theorem Own.row {M : AMem} {lo e len : Nat} {v : Value} {cs : List Value} (h : Own M lo e v len cs) : Row M e v len cs := by
  refine ⟨h.1, ?_⟩
  rcases h.2 with h1 | ⟨id, h1, h2, h3, h4⟩
  · exact .inl h1
  · exact .inr ⟨id, 0, cs, true, h1, h3, h4, by rw [h.1]; omega, by rw [List.drop_zero, ← h.1, List.take_length]⟩
theorem Row.nil (M : AMem) (e : Nat) : Row M e (.slice none 0 0) 0 [] := ⟨by simp, .inl ⟨rfl, rfl⟩⟩
theorem Own.nil (M : AMem) (lo e : Nat) : Own M lo e (.slice none 0 0) 0 [] := ⟨by simp, .inl ⟨rfl, rfl⟩⟩
theorem Row.keep {M M' : AMem} {e len : Nat} {v : Value} {cs : List Value} (h : Row M e v len cs) (hn : M.next ≤ M'.next) (hg : ∀ i, i < M.next → M'.get i = M.get i) : Row M' e v len cs := by
  refine ⟨h.1, ?_⟩
  rcases h.2 with h1 | ⟨id, off, all, own, h1, h2, h3, h4, h5⟩
  · exact .inl h1
  · exact .inr ⟨id, off, all, own, h1, by omega, (hg id h2).trans h3, h4, h5⟩
theorem Own.keep {M M' : AMem} {lo e len : Nat} {v : Value} {cs : List Value} (h : Own M lo e v len cs) (hn : M.next ≤ M'.next) (hg : ∀ i, lo ≤ i → i < M.next → M'.get i = M.get i) : Own M' lo e v len cs := by
  refine ⟨h.1, ?_⟩
  rcases h.2 with h1 | ⟨id, h1, h2, h3, h4⟩
  · exact .inl h1
  · exact .inr ⟨id, h1, h2, by omega, (hg id h2 h3).trans h4⟩
theorem Row.len {P : Program} {M : AMem} {t el : TypeId} {e len : Nat} {v : Value} {cs : List Value} (h : Row M e v len cs) (ht : P.underlying t = some (.slice el)) (M' : AMem) : alen P M' t v = some (.int .i64 len) := by
  rcases h.2 with ⟨rfl, rfl⟩ | ⟨id, off, all, own, rfl, _⟩
  · exact alen_slice ht
  · exact alen_slice ht
theorem Row.at {P : Program} {M : AMem} {t el : TypeId} {e len : Nat} {v : Value} {cs : List Value} {i : TypeInfo} (h : Row M e v len cs) (ht : P.underlying t = some (.slice el)) (hi : P.info? el = some i) (he : i.size = e) {j : Int} (h0 : 0 ≤ j) (hj : j < len) (k : IntKind) :
    ∃ id off all own, aindexAddr P t v (.int k j) = some (.pointer (some ⟨id, off, none⟩)) ∧ id < M.next ∧ M.get id = .cells all own ∧ ∀ t' it q, P.info? t' = some it → q + it.size ≤ e → 0 < it.size → aload P t' all (off + q) = aload P t' cs (j.toNat * e + q) := by
  rcases h.2 with ⟨rfl, rfl⟩ | ⟨id, off, all, own, rfl, hlt, hg, hle, hcs⟩
  · omega
  · refine ⟨id, off + j.toNat * e, all, own, ?_, hlt, hg, ?_⟩
    · simp only [aindexAddr, ht, hi, he, h0, hj, and_self, if_true]
    · intro t' it q hit hq hpos
      have hcl : cs.length = len * e := h.1
      have hjl : j.toNat + 1 ≤ len := by omega
      have hmul : (j.toNat + 1) * e ≤ len * e := Nat.mul_le_mul_right _ hjl
      have hexp : (j.toNat + 1) * e = j.toNat * e + e := Nat.succ_mul _ _
      generalize j.toNat * e = z at *
      generalize len * e = le at *
      have hget : ∀ x, x < e → cs[z + x]? = all[off + z + x]? := by
        intro x hx
        rw [hcs, List.getElem?_take, if_pos (by omega), List.getElem?_drop]
        congr 1; omega
      simp only [aload, hit]
      cases P.underlying t' with
      | none => rfl
      | some d =>
        simp only
        have e1 : off + z + q + it.size ≤ all.length := by omega
        have e2 : z + q + it.size ≤ cs.length := by omega
        rw [if_pos e1, if_pos e2]
        have e3 : (all.drop (off + z + q)).take it.size = (cs.drop (z + q)).take it.size := by
          apply List.ext_getElem?
          intro x
          rw [List.getElem?_take, List.getElem?_take]
          split
          · rename_i hx
            rw [List.getElem?_drop, List.getElem?_drop]
            have := hget (q + x) (by omega)
            rw [show z + q + x = z + (q + x) from by omega, this]
            congr 1; omega
          · rfl
        rw [e3]
        have e4 := hget q (by omega)
        rw [e4]
theorem Row.src {M : AMem} {e len : Nat} {v : Value} {cs : List Value} (h : Row M e v len cs) : asrc M e v = some (len, cs) := by
  rcases h.2 with ⟨rfl, rfl⟩ | ⟨id, off, all, own, rfl, hlt, hg, hle, hcs⟩
  · have : cs = [] := List.eq_nil_of_length_eq_zero (by rw [h.1]; simp)
    rw [this]; rfl
  · simp only [asrc, hg, hle, and_self, if_true, hcs]
theorem Row.slice {P : Program} {M : AMem} {s : Slots} {t el : TypeId} {e len : Nat} {v : Value} {cs : List Value} {i : TypeInfo} {lo hi : Option Operand} {l r : Int} (h : Row M e v len cs) (ht : P.underlying t = some (.slice el)) (hi' : P.info? el = some i) (he : i.size = e)
    (hl : abound s 0 lo = some l) (hr : abound s len hi = some r) (h0 : 0 ≤ l) (h1 : l ≤ r) (h2 : r ≤ len) :
    ∃ v', aslice P s M t v lo hi = some v' ∧ Row M e v' (r - l).toNat ((cs.drop (l.toNat * e)).take ((r - l).toNat * e)) := by
  rcases h.2 with ⟨rfl, rfl⟩ | ⟨id, off, all, own, rfl, hlt, hg, hle, hcs⟩
  · have : cs = [] := List.eq_nil_of_length_eq_zero (by rw [h.1]; simp)
    have hl0 : l = 0 := by omega
    have hr0 : r = 0 := by omega
    subst hl0 hr0
    refine ⟨.slice none 0 0, ?_, ?_⟩
    · simp only [aslice, ht, hi', hl]
      have : abound s 0 hi = some 0 := hr
      simp only [this, and_self, if_true]
    · subst this; simpa using Row.nil M e
  · refine ⟨.slice (some ⟨id, off + l.toNat * e, none⟩) (r - l).toNat e, ?_, ?_⟩
    · simp only [aslice, ht, hi', hl, hr, he, h0, h1, h2, and_self, if_true]
    · have hm : l.toNat * e + (r - l).toNat * e ≤ len * e := by
        rw [← Nat.add_mul]; exact Nat.mul_le_mul_right _ (by omega)
      refine ⟨?_, .inr ⟨id, off + l.toNat * e, all, own, rfl, hlt, hg, by omega, ?_⟩⟩
      · rw [List.length_take, List.length_drop, h.1]; omega
      · rw [hcs, List.drop_take, List.drop_drop, List.take_take]
        congr 1
        omega
theorem aappend_ok {P : Program} {M : AMem} {t tx el : TypeId} {lo e len m : Nat} {v y : Value} {cs cs2 : List Value} {i : TypeInfo} {dx : TypeDesc} {z : Value} (h : Own M lo e v len cs) (hlo : lo ≤ M.next) (ht : P.underlying t = some (.slice el)) (htx : P.underlying tx = some dx) (hdx : (match dx with | .int _ => false | _ => true) = true)
    (hi : P.info? el = some i) (he : i.size = e) (hz : i.zero = some z) (hzs : z.cells.size = i.size) (hsrc : asrc M e y = some (m, cs2)) (hb : i.bytes ≠ 0) (hle : (len + m) * i.bytes ≤ 140737488355328) (hone : cs2.all (·.oneCell') = true) (hl2 : cs2.length = m * e) :
    ∃ v' M', aappendOp P M t tx v y = some (v', M') ∧ Own M' lo e v' (len + m) (cs ++ cs2) ∧ M.next ≤ M'.next ∧ (∀ k, k < lo → M'.get k = M.get k) ∧ (∀ k, k < M.next → (∀ o n q, v ≠ .slice (some ⟨k, o, none⟩) n q) → M'.get k = M.get k) := by
  have hform : aappendOp P M t tx v y = aappend M i.size i.bytes v m cs2 := by
    unfold aappendOp
    simp only [ht, htx]
    cases dx <;> simp only [reduceCtorEq] at hdx <;>
      (simp only [hi, hz, he ▸ hsrc]; rcases h.2 with ⟨rfl, _⟩ | ⟨id, rfl, _⟩ <;> simp only [hzs, if_true])
  by_cases hm : m = 0
  · subst hm
    have : cs2 = [] := List.eq_nil_of_length_eq_zero (by rw [hl2]; simp)
    subst this
    refine ⟨v, M, ?_, by simpa using h, Nat.le_refl _, fun _ _ => rfl, fun _ _ _ => rfl⟩
    rw [hform]; simp [aappend]
  · rcases h.2 with ⟨rfl, rfl⟩ | ⟨id, rfl, h1, h2, h3⟩
    · have hc : cs = [] := List.eq_nil_of_length_eq_zero (by rw [h.1]; simp)
      subst hc
      refine ⟨.slice (some ⟨M.next, 0, none⟩) m e, M.alloc (.cells cs2 true), ?_, ⟨by simpa using hl2, .inr ⟨M.next, by simp, hlo, by simp, by simp [get_new]⟩⟩, by simp, fun k hk => get_old (by omega), fun k hk _ => get_old (by omega)⟩
      rw [hform]
      simp only [aappend, hm, if_false]
      rw [if_pos ⟨hb, by simpa using hle⟩, he]
    · refine ⟨.slice (some ⟨M.next, 0, none⟩) (len + m) e, (M.set id .dead).alloc (.cells (cs ++ cs2) true), ?_, ⟨by rw [List.length_append, h.1, hl2, Nat.add_mul], .inr ⟨M.next, rfl, hlo, by simp, ?_⟩⟩, by simp, fun k hk => ?_, fun k hk hne => ?_⟩
      · rw [hform]
        simp only [aappend, hm, if_false, h3]
        rw [if_pos ⟨he.symm, by rw [he, h.1]; omega, hb, hle, hone⟩, he, List.drop_zero]
      · exact get_new (M := M.set id .dead)
      · rw [get_old (by simp; omega), get_else (by omega)]
      · rw [get_old (by simp; omega), get_else]
        intro hki
        subst hki
        exact hne 0 len e rfl
def enumV : Nat → List Value → List (Nat × Value)
  | _, [] => []
  | k, v :: vs => (k, v) :: enumV (k + 1) vs
theorem aput_mid : ∀ (vs a m b : List Value), m.length = vs.length → aput (a ++ m ++ b) a.length vs = a ++ vs ++ b := by
  intro vs
  induction vs with
  | nil => intro a m b h; have : m = [] := List.eq_nil_of_length_eq_zero h; subst this; simp [aput]
  | cons v vs ih =>
    intro a m b h
    cases m with
    | nil => simp at h
    | cons x m =>
      simp only [aput]
      have e1 : (a ++ x :: m ++ b).set a.length v = (a ++ [v]) ++ m ++ b := by simp
      rw [e1]
      have := ih (a ++ [v]) m b (by simpa using h)
      simp only [List.length_append, List.length_cons, List.length_nil, Nat.zero_add] at this
      rw [this]
      simp
theorem afill_all {e : Nat} : ∀ (vs done : List Value) (k : Nat) (rest : List Value), done.length = k * e → rest.length = vs.length * e → (∀ v ∈ vs, v.cells.size = e) →
    afill (fun j => some (j * e, e)) (done ++ rest) (enumV k vs) = some (done ++ vs.flatMap fun v => v.cells.toList) := by
  intro vs
  induction vs with
  | nil =>
    intro done k rest h1 h2 _
    have : rest = [] := List.eq_nil_of_length_eq_zero (by simpa using h2)
    subst this
    simp [enumV, afill]
  | cons v vs ih =>
    intro done k rest h1 h2 h3
    have hv : v.cells.size = e := h3 v (by simp)
    simp only [enumV, afill]
    have hlen : rest.length = e + vs.length * e := by rw [h2, List.length_cons, Nat.succ_mul, Nat.add_comm]
    rw [if_pos ⟨hv, by rw [hv, List.length_append, h1, hlen]; omega⟩]
    have hsplit : done ++ rest = done ++ rest.take e ++ rest.drop e := by rw [List.append_assoc, List.take_append_drop]
    rw [hsplit, ← h1, aput_mid v.cells.toList done (rest.take e) (rest.drop e) (by rw [List.length_take, hlen]; simp [hv])]
    rw [ih (done ++ v.cells.toList) (k + 1) (rest.drop e) (by rw [List.length_append, h1, Nat.succ_mul]; simp [hv]) (by rw [List.length_drop, hlen]; omega) (fun u hu => h3 u (by simp [hu]))]
    simp
theorem abuildSlice_all {P : Program} {t el : TypeId} {i : TypeInfo} {z : Value} {n : Nat} (vs : List Value) (ht : P.underlying t = some (.slice el)) (hi : P.info? el = some i) (hz : i.zero = some z) (hf : z.cells.toList.all (flatN 3) = true) (hs : z.cells.size = i.size) (h0 : 0 < n * i.size) (hle : n * i.size ≤ 16777216)
    (hn : vs.length = n) (hv : ∀ v ∈ vs, v.cells.size = i.size) : abuildSlice P t n (enumV 0 vs) = some (i.size, vs.flatMap fun v => v.cells.toList) := by
  have hzr : (zeroRow z (n * i.size)).all (flatN 3) = true := by
    unfold zeroRow
    rw [List.all_eq_true]
    intro x hx
    simp only [Array.toList_map, List.mem_map] at hx
    obtain ⟨q, hq, rfl⟩ := hx
    have hpos : 0 < z.cells.size := by
      rw [hs]
      rcases Nat.eq_zero_or_pos i.size with h | h
      · rw [h] at h0; simp at h0
      · exact h
    have hlt : q % z.cells.size < z.cells.size := Nat.mod_lt _ hpos
    have hm : z.cells[q % z.cells.size]! ∈ z.cells.toList := by
      rw [getElem!_pos z.cells _ hlt]
      exact Array.getElem_mem_toList hlt
    exact List.all_eq_true.1 hf _ hm
  have := afill_all (e := i.size) vs [] 0 (zeroRow z (n * i.size)) (by simp) (by simp [zeroRow, hn]) hv
  simp only [List.nil_append] at this
  simp only [abuildSlice, ht, hi, hz]
  rw [if_pos ⟨by omega, by omega, hzr⟩, this]
  rfl
def byteCells (l : List UInt8) : List Value := l.map fun b => .int .u8 b.toNat
theorem cellBytes_byteCells : ∀ l : List UInt8, cellBytes (byteCells l) = some l := by
  intro l
  induction l with
  | nil => rfl
  | cons b l ih =>
    show (match cellByte (.int .u8 b.toNat), cellBytes (byteCells l) with | some b, some bs => some (b :: bs) | _, _ => none) = _
    rw [ih]
    simp [cellByte]
theorem Row.str {P : Program} {M : AMem} {t u el : TypeId} {v : Value} {len : Nat} {bs : List UInt8} (h : Row M 1 v len (byteCells bs)) (ht : P.underlying t = some (.slice el)) (he : P.underlying el = some (.int .u8)) (hu : P.underlying u = some .string) :
    aconv P M t u v = some (asString bs, M) := by
  rcases h.2 with ⟨rfl, h0⟩ | ⟨id, off, all, own, rfl, hlt, hg, hle, hcs⟩
  · have : bs = [] := by
      have := h.1
      rw [h0] at this
      exact List.eq_nil_of_length_eq_zero (by simpa [byteCells] using this)
    subst this
    simp only [aconv, ht, hu, he]
  · have hle' : off + len ≤ all.length := by omega
    have hcs' : (all.drop off).take len = byteCells bs := by rw [hcs, Nat.mul_one]
    simp only [aconv, ht, hu, he, hg, hle', if_true, hcs', cellBytes_byteCells]
    rfl
end Go.Proofs.Ytdkdkpiemigfkaa
set_option linter.unusedVariables false
set_option linter.unusedSimpArgs false
namespace Go.Proofs.Ytdkdkpiemigfkaa
open Go
theorem wrapm_u8 (a : Int) : IntKind.u8.wrap a = a % 256 := by simp only [IntKind.wrap, IntKind.bits, IntKind.signed]; simp
theorem wrapm_u32 (a : Int) : IntKind.u32.wrap a = a % 4294967296 := by simp only [IntKind.wrap, IntKind.bits, IntKind.signed]; simp
theorem ofInt_nn {w : Nat} {a : Int} (h0 : 0 ≤ a) (h1 : a.toNat < 2 ^ w) : (BitVec.ofInt w a).toNat = a.toNat := by
  rw [BitVec.toNat_ofInt]
  have : a % ((2 ^ w : Nat) : Int) = a := Int.emod_eq_of_lt h0 (by omega)
  rw [this]
theorem and_bv {w : Nat} {a b : Int} (ha : 0 ≤ a) (ha' : a.toNat < 2 ^ w) (hb : 0 ≤ b) (hb' : b.toNat < 2 ^ w) : (BitVec.ofInt w a &&& BitVec.ofInt w b).toNat = a.toNat &&& b.toNat := by
  rw [BitVec.toNat_and, ofInt_nn ha ha', ofInt_nn hb hb']
theorem or_bv {w : Nat} {a b : Int} (ha : 0 ≤ a) (ha' : a.toNat < 2 ^ w) (hb : 0 ≤ b) (hb' : b.toNat < 2 ^ w) : (BitVec.ofInt w a ||| BitVec.ofInt w b).toNat = a.toNat ||| b.toNat := by
  rw [BitVec.toNat_or, ofInt_nn ha ha', ofInt_nn hb hb']
section
variable {a b : Int} (ha : 0 ≤ a) (ha' : a ≤ 9223372036854775807) (hb : 0 ≤ b) (hb' : b ≤ 9223372036854775807)
include ha ha' hb hb'
theorem abits_and64 : abits .and .i64 a b = ((a.toNat &&& b.toNat : Nat) : Int) := by
  show IntKind.i64.wrap (((BitVec.ofInt 64 a &&& BitVec.ofInt 64 b).toNat : Nat) : Int) = _
  rw [and_bv ha (by omega) hb (by omega)]
  have := Nat.and_le_left (n := a.toNat) (m := b.toNat)
  exact wrap_i64 (by omega) (by omega)
theorem abits_or64 : abits .or .i64 a b = ((a.toNat ||| b.toNat : Nat) : Int) := by
  show IntKind.i64.wrap (((BitVec.ofInt 64 a ||| BitVec.ofInt 64 b).toNat : Nat) : Int) = _
  rw [or_bv ha (by omega) hb (by omega)]
  have : a.toNat ||| b.toNat < 2 ^ 63 := Nat.or_lt_two_pow (by omega) (by omega)
  exact wrap_i64 (by omega) (by omega)
end
theorem and_low {a : Int} (k : Nat) (hk : k ≤ 62) (ha : 0 ≤ a) (ha' : a ≤ 9223372036854775807) : abits .and .i64 a ((2 ^ k - 1 : Nat) : Int) = a % ((2 ^ k : Nat) : Int) := by
  have hp : 2 ^ k ≤ 2 ^ 62 := Nat.pow_le_pow_right (by decide) hk
  have hp0 : 0 < 2 ^ k := Nat.pow_pos (by decide)
  rw [abits_and64 ha ha' (by omega) (by omega)]
  have : ((2 ^ k - 1 : Nat) : Int).toNat = 2 ^ k - 1 := by omega
  rw [this, Nat.and_two_pow_sub_one_eq_mod, Int.natCast_emod, Int.toNat_of_nonneg ha]
theorem and_255 {a : Int} (ha : 0 ≤ a) (ha' : a ≤ 9223372036854775807) : abits .and .i64 a 255 = a % 256 := and_low 8 (by decide) ha ha'
theorem and_15 {a : Int} (ha : 0 ≤ a) (ha' : a ≤ 9223372036854775807) : abits .and .i64 a 15 = a % 16 := and_low 4 (by decide) ha ha'
theorem and_65535 {a : Int} (ha : 0 ≤ a) (ha' : a ≤ 9223372036854775807) : abits .and .i64 a 65535 = a % 65536 := and_low 16 (by decide) ha ha'
theorem and_8191 {a : Int} (ha : 0 ≤ a) (ha' : a ≤ 9223372036854775807) : abits .and .i64 a 8191 = a % 8192 := and_low 13 (by decide) ha ha'
theorem or_low {a b : Int} (k : Nat) (hk : k ≤ 62) (ha : 0 ≤ a) (ha' : a ≤ 9223372036854775807) (hm : a % ((2 ^ k : Nat) : Int) = 0) (hb : 0 ≤ b) (hb' : b < ((2 ^ k : Nat) : Int)) : abits .or .i64 a b = a + b := by
  have hp : 2 ^ k ≤ 2 ^ 62 := Nat.pow_le_pow_right (by decide) hk
  have hp0 : 0 < 2 ^ k := Nat.pow_pos (by decide)
  rw [abits_or64 ha ha' hb (by omega)]
  have hd : a.toNat = 2 ^ k * (a.toNat / 2 ^ k) := by
    have h1 : a.toNat % 2 ^ k = 0 := by
      have : ((a.toNat % 2 ^ k : Nat) : Int) = 0 := by rw [Int.natCast_emod, Int.toNat_of_nonneg ha]; exact hm
      omega
    have := Nat.div_add_mod a.toNat (2 ^ k)
    omega
  rw [hd, ← Nat.two_pow_add_eq_or_of_lt (by omega), ← hd]
  omega
theorem or_256 {a b : Int} (ha : 0 ≤ a) (ha' : a ≤ 9223372036854775807) (hm : a % 256 = 0) (hb : 0 ≤ b) (hb' : b < 256) : abits .or .i64 a b = a + b := or_low 8 (by decide) ha ha' hm hb hb'
section
variable {a : Int} {k' : IntKind}
theorem shl_8 : abin .shl (.int .i64 a) (.int k' 8) = some (.int .i64 (IntKind.i64.wrap (a * 256))) := by simp [abin, IntKind.bits]
theorem shr_8 : abin .shr (.int .i64 a) (.int k' 8) = some (.int .i64 (a / 256)) := by simp [abin, IntKind.bits, Int.fdiv_eq_ediv_of_nonneg]
theorem shr_16 : abin .shr (.int .i64 a) (.int k' 16) = some (.int .i64 (a / 65536)) := by simp [abin, IntKind.bits, Int.fdiv_eq_ediv_of_nonneg]
theorem shr_4 : abin .shr (.int .i64 a) (.int k' 4) = some (.int .i64 (a / 16)) := by simp [abin, IntKind.bits, Int.fdiv_eq_ediv_of_nonneg]
theorem shr8_4 : abin .shr (.int .u8 a) (.int k' 4) = some (.int .u8 (a / 16)) := by simp [abin, IntKind.bits, Int.fdiv_eq_ediv_of_nonneg]
theorem shr8_7 : abin .shr (.int .u8 a) (.int k' 7) = some (.int .u8 (a / 128)) := by simp [abin, IntKind.bits, Int.fdiv_eq_ediv_of_nonneg]
end
section
variable {P : Program} {s : Slots} {M : AMem} {d : Option Nat} {ty : TypeId} {g : Option (Nat × Bool)}
theorem a_convi {t u : TypeId} {x : Operand} {k k' : IntKind} {m m' : Int} (hx : ev s x = .int k m) (hu : P.underlying u = some (.int k')) (ht : (P.underlying t).isSome = true) (hw : k'.wrap m = m') : aop P s M ⟨d, .convert t u x, ty, g⟩ = some (.int k' m', M) := by
  subst hw
  refine a_conv ?_
  rw [hx]
  cases h : P.underlying t with
  | none => rw [h] at ht; cases ht
  | some dd => simp only [aconv, h, hu]
end
end Go.Proofs.Ytdkdkpiemigfkaa
set_option linter.unusedVariables false
set_option linter.unusedSimpArgs false
namespace Go.Proofs.Ytdkdkpiemigfkaa
open Go
section
variable {P : Program} {r : Option Nat} {n : Nat} {s : Slots} {M : AMem} {ds : List Nat} {Q : APost} {c : Code}
theorem t_join {N I : Slots → AMem → List Nat → Prop} (h : awp P r n c (AThen I Q) s M ds) (k : ∀ s M ds, I s M ds → N s M ds) : awp P r n c (AThen N Q) s M ds := by
  refine awp_mono h ?_
  intro x s M ds hx
  cases x with
  | normal => exact k _ _ _ hx
  | _ => exact hx
end
def RangeK (P : Program) (n : Nat) (l d : Nat) (s : Slots) (ds : List Nat) (Q : APost) (res : Res) (M2 : AMem) : Prop :=
  match res with
  | .ret _ => ∃ st pend sl n' ps' asn' body' d', M2.get l = .loop st pend sl n' ps' asn' body' d' ∧ st ≠ .busy ∧
      (match pend with
       | none => Q .normal s (M2.set l (.loop .exhausted none sl n' ps' asn' body' d')) (d :: ds)
       | some c => awp P none n c Q s (M2.set l (.loop .exhausted (some c) sl n' ps' asn' body' d')) (d :: ds))
  | .pan v => Q (.pan v) s M2 (d :: ds)
theorem awp_rangeFunc {P : Program} {n : Nat} {s : Slots} {M : AMem} {ds : List Nat} {Q : APost} {S : FuncId → ASpec} (hS : ∀ f, Sound P f (S f)) {g : Operand} {ps : Array Tmp} {asn body : Code} (hok : okO n g = true) {f : FuncId} {first cap : Array Value}
    (hg : ev s g = .func (.func f) first cap)
    (h : S f (first.toList ++ [.func (.yield (M.next + 1)) #[] #[]] ++ cap.toList) ((M.alloc .defs).alloc (.loop .ready none s n ps asn body M.next)) (RangeK P n (M.next + 1) M.next s ds Q)) :
    awp P none n (.rangeFunc g ps asn body) Q s M ds := by
  intro F ρ ca w hs hM hd
  have hfv := hs.ev hok
  rw [hg] at hfv
  obtain ⟨first', cap', hcv, hr1, hr2⟩ := hfv.func_inv rfl
  obtain ⟨⟨fn', hfn', hbody', hname'⟩, hcalls⟩ := hS f _ _ _ h
  refine wpIn_rangeFunc fun fn hfn => ?_
  obtain ⟨s1, u1, k1⟩ := hM.alloc (o := .defs) (x := .deferred (some [])) (ext := 0) (fun ρ' hup => ⟨hM.top _ (Nat.le_refl _), by show (w.heap.push _)[w.heap.size]? = _; simp⟩)
  have hup1 := u1.up hM
  have hput : (ρ.put M.next ⟨w.heap.size, 0, 0⟩) M.next = some ⟨w.heap.size, 0, 0⟩ := by simp [Rho.put]
  generalize hw1 : w.alloc (.deferred (some [])) = w1 at *
  have hz1 : w1.heap.size = w.heap.size + 1 := by rw [← hw1]; simp
  generalize hρ1 : ρ.put M.next ⟨w.heap.size, 0, 0⟩ = ρ1 at *
  obtain ⟨s2, u2, k2⟩ := s1.alloc (o := .loop .ready none s n ps asn body M.next) (x := .loop { state := .ready, pending := none, fn, tmps := ca.tmps, params := ps, assign := asn, body, defers := w.heap.size }) (ext := 0)
    (fun ρ' hup => ⟨s1.top _ (Nat.le_refl _), { state := .ready, pending := none, fn, tmps := ca.tmps, params := ps, assign := asn, body, defers := w.heap.size }, by show (w1.heap.push _)[w1.heap.size]? = _; simp, rfl, rfl, hs.size, fun i hi => ((hs.get i hi).mono hup1).mono hup, rfl, rfl, rfl, _, hup _ _ hput, rfl⟩)
  have hup2 := u2.up s1
  have hnx : (M.alloc .defs).next = M.next + 1 := rfl
  have hput2 : (ρ1.put (M.next + 1) ⟨w1.heap.size, 0, 0⟩) (M.next + 1) = some ⟨w1.heap.size, 0, 0⟩ := by simp [Rho.put]
  rw [hnx] at s2 u2 hup2
  have hd2 : (ρ1.put (M.next + 1) ⟨w1.heap.size, 0, 0⟩) M.next = some ⟨w.heap.size, 0, 0⟩ := hup2 _ _ hput
  generalize hw2 : w1.alloc (.loop { state := .ready, pending := none, fn, tmps := ca.tmps, params := ps, assign := asn, body, defers := w.heap.size }) = w2 at *
  generalize hρ2 : ρ1.put (M.next + 1) ⟨w1.heap.size, 0, 0⟩ = ρ2 at *
  have hupA : ∀ i pl, ρ i = some pl → ρ2 i = some pl := fun i pl hi => hup2 _ _ (hup1 _ _ hi)
  have he : (Instr.enterLoop fn ca.tmps ps asn body (FR none).round).run P w = .ok (w.heap.size + 1, [{ target := .collected w.heap.size, args := #[] }]) w2 := by
    have := run_enterLoop_outer (P := P) (w := w) fn ca.tmps ps asn body
    rw [hw1, hw2] at this
    exact this
  have hyv : VR ρ2 (.func (.yield (M.next + 1)) #[] #[]) (.func (.yield (w.heap.size + 1)) #[] #[]) := by
    have := VR.yield (ρ := ρ2) hput2
    rw [hz1] at this
    exact this
  have hargs : VRl ρ2 (first.toList ++ [.func (.yield (M.next + 1)) #[] #[]] ++ cap.toList) (first' ++ #[Value.func (.yield (w.heap.size + 1)) #[] #[]] ++ cap').toList := by
    simp only [Array.toList_append]
    refine ((VRs.toList (hr1.mono hupA)).append ?_).append (VRs.toList (hr2.mono hupA))
    refine ⟨rfl, fun i x y hx hy => ?_⟩
    cases i with
    | zero => simp at hx hy; subst hx hy; exact hyv
    | succ i => simp at hx
  have hc := hcalls F ρ2 w2 _ hargs s2
  refine ⟨w.heap.size + 1, [{ target := .collected w.heap.size, args := #[] }], w2, { target := .fn (.func f) cap', args := first' ++ #[Value.func (.yield (w.heap.size + 1)) #[] #[]] }, w2, f, first' ++ #[Value.func (.yield (w.heap.size + 1)) #[] #[]] ++ cap', w2, he, ?_, fun _ _ => trivial, ?_, fun hdp => by simp [Fence.wide] at hdp, callsIn_FR (hc.mono ?_)⟩
  · simp only [resolve, hcv, Deferred.ofValue, Sem.run_pure]
    simp [Act.eval]
  · simp only [invoke, callFunc, Sem.run_bind, run_program, Result.andThen_ok, hfn', hname', hbody', Bool.false_eq_true, if_false, Sem.run_pure]
  · rintro e w3 ⟨ρ3, cv, res, M3, hK, rfl, q1, q2, q3, q4, q5⟩
    have hq2 : M.next + 1 + 1 ≤ M3.next := q2
    have hρ3 : RhoLe M.next ρ ρ3 := fun i hi => by
      have e1 := q1 i (by show i < M.next + 1 + 1; omega)
      have e2 := u2 i (by omega)
      rw [e1, e2]; exact u1 i hi
    have hup3 : ∀ i pl, ρ i = some pl → ρ3 i = some pl := hρ3.up hM
    have hd3 : ρ3 M.next = some ⟨w.heap.size, 0, 0⟩ := by rw [q1 M.next (by show M.next < M.next + 1 + 1; omega)]; exact hd2
    have hl3 : ρ3 (M.next + 1) = some ⟨w1.heap.size, 0, 0⟩ := by rw [q1 (M.next + 1) (by show M.next + 1 < M.next + 1 + 1; omega)]; exact hput2
    have hdr : DR ρ3 (M.next :: ds) ({ target := .collected w.heap.size, args := #[] } :: ca.defers) := by
      refine ⟨by simp [hd.1], fun i id hi => ?_⟩
      cases i with
      | zero => simp at hi; subst hi; exact ⟨_, hd3, rfl⟩
      | succ i =>
        obtain ⟨pl, h1, h2⟩ := hd.2 i id (by simpa using hi)
        exact ⟨pl, hup3 _ _ h1, by simpa using h2⟩
    have hkept : Kept F w w3 := (k1.trans k2).trans q5
    have hsr : SR ρ3 n s { ca with defers := { target := .collected w.heap.size, args := #[] } :: ca.defers } := ⟨hs.size, fun i hi => (hs.get i hi).mono hup3⟩
    cases res with
    | pan v =>
      exact ⟨ρ3, .pan v, s, M3, _, hρ3, by omega, q4, hkept, hdr, hK, cv, rfl, q3⟩
    | ret v =>
      obtain ⟨st, pend, sl, n', ps', asn', body2, d', hg3, hst, hrest⟩ := hK
      obtain ⟨l, hl, hs', hpend, _, _, _, _, _, hputl⟩ := q4.loopAt hl3 hg3
      obtain ⟨z1, z2⟩ := hputl .exhausted pend
      have hend : (Instr.endLoop (w.heap.size + 1)).run P w3 = .ok pend (w3.putObj (w.heap.size + 1) (.loop { l with state := .exhausted, pending := pend })) := by
        have hl' : w3.heap[w.heap.size + 1]? = some (.loop l) := by rw [← hz1]; exact hl
        have := run_endLoop (P := P) hl' (by rw [hs']; exact hst)
        rw [← hpend]; exact this
      refine ⟨pend, _, hend, ?_⟩
      simp only at z1 z2
      rw [hz1] at z1 z2
      cases pend with
      | none => exact ⟨ρ3, .normal, s, _, _, hρ3, by show M.next ≤ M3.next; omega, z1, hkept.trans z2, hdr, hrest, rfl, hsr⟩
      | some c =>
        have hw := hrest F ρ3 _ _ hsr z1 hdr
        refine wpIn_mono (F := FR none) hw ?_
        intro e a' w' hx
        exact XR.trans hx hρ3 (by show M.next ≤ M3.next; omega) (hkept.trans z2)
def Shut : List Nat → AMem → AMem → Prop
  | [], M, M' => M' = M
  | d :: ds, M, M' => M.get d = .defs ∧ Shut ds (M.set d .dead) M'
def BodyM (P : Program) (fn : Func) (R : Res → AMem → Prop) : APost
  | .normal, s, M, ds => ∃ M', Shut ds M M' ∧ ∃ vs, aresults P s M' fn.results.toList = some vs ∧ R (.ret (pack vs)) M'
  | .ret, s, M, ds => ∃ M', Shut ds M M' ∧ ∃ vs, aresults P s M' fn.results.toList = some vs ∧ R (.ret (pack vs)) M'
  | _, _, _, _ => False
theorem shut_leaves {P : Program} {F : Nat → Prop} {fn : Func} {tmps : Array Value} {ρ : Rho} {M' : AMem} {R : Ending → World → Prop} : ∀ (ds : List Nat) (defers : List Deferred) (M : AMem) (w : World), Sim F ρ M w → DR ρ ds defers → Shut ds M M' →
    (∀ w', Sim F ρ M' w' → Kept F w w' → ∃ v, (results fn tmps).run P w' = .ok v w' ∧ R (.returned v) w') → LeavesInM Fence.wide 0 P fn tmps R defers .returning w := by
  intro ds
  induction ds with
  | nil =>
    intro defers M w hM hd hsh h
    have : defers = [] := List.eq_nil_of_length_eq_zero hd.1
    subst this
    simp only [Shut] at hsh
    subst hsh
    exact h w hM (.refl _ _)
  | cons d ds ih =>
    intro defers M w hM hd hsh h
    cases defers with
    | nil => have := hd.1; simp at this
    | cons D defers =>
      obtain ⟨hg, hsh⟩ := hsh
      obtain ⟨pl, hpl, hD⟩ := hd.2 0 d rfl
      simp at hD
      have hob := hM.obj d pl hpl
      rw [hg] at hob
      obtain ⟨hF, hheap⟩ := hob
      obtain ⟨z1, z2⟩ := hM.set (o := .dead) (w' := w.putObj pl.block (.deferred none)) hpl (by rw [hg]; rfl) (by simp) (fun b hb => World.putObj_heap_other hb) trivial rfl rfl rfl
      refine ⟨by simp, .inl ⟨pl.block, _, by rw [hD], run_takeDeferred hheap, ?_⟩⟩
      refine ih defers (M.set d .dead) _ z1 ⟨by have := hd.1; simpa using this, fun i id hi => ?_⟩ hsh (fun w' hs' hk' => h w' hs' (z2.trans hk'))
      obtain ⟨pl', h1, h2⟩ := hd.2 (i + 1) id (by simpa using hi)
      exact ⟨pl', h1, by simpa using h2⟩
theorem Shut.next : ∀ {ds : List Nat} {M M' : AMem}, Shut ds M M' → M'.next = M.next := by
  intro ds
  induction ds with
  | nil => intro M M' h; simp only [Shut] at h; rw [h]
  | cons d ds ih => intro M M' h; have := ih h.2; rw [this]; rfl
theorem calls_of_awpM {P : Program} {M : AMem} {f : FuncId} {fn : Func} {c : Code} {args : List Value} {R : Res → AMem → Prop} (hf : P.funcs[f]? = some fn) (hb : fn.body = some c) (hn : args.length ≤ fn.ntmps) (hr : fn.results.toList.all (okRes fn.ntmps) = true)
    (h : awp P none fn.ntmps c (BodyM P fn R) (entry args) M []) {F : Nat → Prop} {ρ : Rho} {w : World} {cargs : Array Value} (ha : VRl ρ args cargs.toList) (hM : Sim F ρ M w) :
    Calls P f cargs w (CallPost F ρ M w R) := by
  refine callsIn_wide.1 (callsIn_of_wp_marks (n := 0) (F := Fence.wide) hf hb trivial ?_)
  have hw := h F ρ { tmps := cargs ++ Array.replicate (fn.ntmps - cargs.size) undef, defers := [] } w (entry_SR ha hn) hM ⟨rfl, fun i id hi => by simp at hi⟩
  refine wpIn_mono (F := Fence.wide) hw ?_
  rintro e a w' ⟨ρ2, x, s', M2, ds', g1, g2, g3, g4, g5, g6, g7⟩
  cases x with
  | normal =>
    obtain ⟨rfl, hs'⟩ := g7
    obtain ⟨M3, hsh, vs, hvs, hR⟩ := g6
    refine shut_leaves ds' a.defers M2 w' g3 g5 hsh fun w3 hM3 hk3 => ?_
    obtain ⟨c, h1, h2⟩ := results_run (P := P) hs' hM3 hr hvs
    exact ⟨c, h1, ρ2, c, _, M3, hR, rfl, g1, by rw [hsh.next]; exact g2, h2, hM3, g4.trans hk3⟩
  | ret =>
    obtain ⟨rfl, hs'⟩ := g7
    obtain ⟨M3, hsh, vs, hvs, hR⟩ := g6
    refine shut_leaves ds' a.defers M2 w' g3 g5 hsh fun w3 hM3 hk3 => ?_
    obtain ⟨c, h1, h2⟩ := results_run (P := P) hs' hM3 hr hvs
    exact ⟨c, h1, ρ2, c, _, M3, hR, rfl, g1, by rw [hsh.next]; exact g2, h2, hM3, g4.trans hk3⟩
  | exit id => exact g6.elim
  | pan v => exact g6.elim
theorem Sound.of_awpM {P : Program} {f : FuncId} {fn : Func} {c : Code} {sp : ASpec} (hf : P.funcs[f]? = some fn) (hb : fn.body = some c) (hname : (fn.name == "runtime.NumGoroutine") = false) (hr : fn.results.toList.all (okRes fn.ntmps) = true)
    (h : ∀ args M K, sp args M K → args.length ≤ fn.ntmps ∧ awp P none fn.ntmps c (BodyM P fn fun res M' => ∃ res2 M2, K res2 M2 ∧ Canon M res M' res2 M2) (entry args) M []) : Sound P f sp := by
  intro args M K hK
  obtain ⟨hn, hw⟩ := h args M K hK
  refine ⟨⟨fn, hf, by rw [hb]; rfl, hname⟩, fun F ρ w cargs ha hM => ?_⟩
  refine (calls_of_awpM hf hb hn hr hw ha hM).mono ?_
  rintro e w' ⟨ρ', cv, res, M', ⟨res2, M2, hK2, hcan⟩, he, h1, h2, h3, h4, h5⟩
  obtain ⟨he2, hn2, hcan⟩ := hcan
  obtain ⟨ρ2, g1, g2, g3⟩ := hcan F ρ w ρ' w' hM h1 h4 cv h3
  exact ⟨ρ2, cv, res2, M2, hK2, he.trans (he2 cv), g1, hn2, g2, g3, h5⟩
end Go.Proofs.Ytdkdkpiemigfkaa
set_option linter.unusedVariables false
set_option linter.unusedSimpArgs false
namespace Go.Proofs.Ytdkdkpiemigfkaa
open Go
section
variable {P : Program} {s : Slots} {M : AMem} {d : Option Nat} {ty : TypeId} {g : Option (Nat × Bool)}
theorem a_max {x y : Operand} {t u : TypeId} {k k' : IntKind} {a b : Int} {v : Value} (hx : ev s x = .int k a) (hy : ev s y = .int k' b) (hv : Value.int k (max a b) = v) : aop P s M ⟨d, .call ⟨.builtin .max, #[x, y], #[t, u]⟩, ty, g⟩ = some (v, M) := by
  subst hv
  have h1 : apure P s (AOp.oper ⟨d, .call ⟨.builtin .max, #[x, y], #[t, u]⟩, ty, g⟩) = some (.int k (max a b)) := by
    have he : (execOp (ev s) (AOp.oper ⟨d, .call ⟨.builtin .max, #[x, y], #[t, u]⟩, ty, g⟩)) = pure (.value (.int k (max a b))) := by
      simp only [execOp, AOp.oper, resolve, invoke, builtin, Builtin.max_, Builtin.max2, pure_bind, List.map_toArray, List.map_cons, List.map_nil, hx, hy, List.foldlM_cons, List.foldlM_nil, bind_pure]
      have : (if b > a then b else a) = max a b := by rw [Int.max_def]; split <;> split <;> omega
      rw [this]
      try rfl
    unfold apure
    rw [he]
    simp [AOp.oper, Op.operands, Call.operands, hx, hy, flat, flatN, isScalar]
  simp only [aop, acall, h1]
  rfl
theorem a_min {x y : Operand} {t u : TypeId} {k k' : IntKind} {a b : Int} {v : Value} (hx : ev s x = .int k a) (hy : ev s y = .int k' b) (hv : Value.int k (min a b) = v) : aop P s M ⟨d, .call ⟨.builtin .min, #[x, y], #[t, u]⟩, ty, g⟩ = some (v, M) := by
  subst hv
  have h1 : apure P s (AOp.oper ⟨d, .call ⟨.builtin .min, #[x, y], #[t, u]⟩, ty, g⟩) = some (.int k (min a b)) := by
    have he : (execOp (ev s) (AOp.oper ⟨d, .call ⟨.builtin .min, #[x, y], #[t, u]⟩, ty, g⟩)) = pure (.value (.int k (min a b))) := by
      simp only [execOp, AOp.oper, resolve, invoke, builtin, Builtin.min_, Builtin.min2, pure_bind, List.map_toArray, List.map_cons, List.map_nil, hx, hy, List.foldlM_cons, List.foldlM_nil, bind_pure]
      have : (if b < a then b else a) = min a b := by rw [Int.min_def]; split <;> split <;> omega
      rw [this]
      try rfl
    unfold apure
    rw [he]
    simp [AOp.oper, Op.operands, Call.operands, hx, hy, flat, flatN, isScalar]
  simp only [aop, acall, h1]
  rfl
end
theorem xor_not {a : Int} (h0 : -9223372036854775808 ≤ a) (h1 : a ≤ 9223372036854775807) : abits .xor .i64 (-1) a = -a - 1 := by
  show IntKind.i64.wrap (((BitVec.ofInt 64 (-1) ^^^ BitVec.ofInt 64 a).toNat : Nat) : Int) = _
  have e : BitVec.ofInt 64 (-1) = BitVec.allOnes 64 := by decide
  rw [e, BitVec.allOnes_xor, BitVec.toNat_not, BitVec.toNat_ofInt]
  simp only [IntKind.wrap, IntKind.bits, IntKind.signed]
  simp
  omega
theorem and_any {b : Int} : abits .and .i64 b 65535 = b % 65536 := by
  show IntKind.i64.wrap (((BitVec.ofInt 64 b &&& BitVec.ofInt 64 65535).toNat : Nat) : Int) = _
  have e : (BitVec.ofInt 64 65535).toNat = 2 ^ 16 - 1 := by decide
  rw [BitVec.toNat_and, e, Nat.and_two_pow_sub_one_eq_mod, BitVec.toNat_ofInt]
  rw [wrap_i64 (by omega) (by omega)]
  omega
theorem not_and {a : Int} (h0 : 0 ≤ a) (h1 : a ≤ 65535) : abits .and .i64 (abits .xor .i64 (-1) a) 65535 = 65535 - a := by
  rw [xor_not (by omega) (by omega), and_any]; omega
theorem q_mem {Q : APost} {x : AX} {s : Slots} {M : AMem} {ds : List Nat} (h : ∀ M', M' = M → Q x s M' ds) : Q x s M ds := h M rfl
section
variable {a b c d : Value}
theorem ext2_0 : (#[a, b] : Array Value)[0]? = some a := rfl
theorem ext2_1 : (#[a, b] : Array Value)[1]? = some b := rfl
theorem ext3_0 : (#[a, b, c] : Array Value)[0]? = some a := rfl
theorem ext3_1 : (#[a, b, c] : Array Value)[1]? = some b := rfl
theorem ext3_2 : (#[a, b, c] : Array Value)[2]? = some c := rfl
theorem ext4_0 : (#[a, b, c, d] : Array Value)[0]? = some a := rfl
theorem ext4_1 : (#[a, b, c, d] : Array Value)[1]? = some b := rfl
theorem ext4_2 : (#[a, b, c, d] : Array Value)[2]? = some c := rfl
end
section
variable {P : Program} {S : FuncId → ASpec} {s : Slots} {M M' : AMem} {K : Out → Prop} {os : List AOp} {d : Option Nat} {ty : TypeId}
theorem s_yield {f : Operand} {xs : Array Operand} {ts : Array TypeId} {id : Nat} {a b : Array Value} (hf : ev s f = .func (.yield id) a b) {args : List Value} (ha : xs.toList.map (ev s) = args)
    (k : YRound P id args M fun res M' => match res with
      | .ret v => EA P S os (upd s d v) M' K
      | .pan v => K (.pan v M')) : EA P S (⟨d, .call ⟨.value f, xs, ts⟩, ty, none⟩ :: os) s M K := by
  refine ⟨?_⟩
  simp only [EA.eq] at k
  show evalOp P S s M ⟨d, .call ⟨.value f, xs, ts⟩, ty, none⟩ _
  simp only [evalOp, hf]
  rw [ha]
  exact k
end
theorem RoundQ.mono {id : Nat} {K K' : Res → AMem → Prop} (h : ∀ res M, K res M → K' res M) : ∀ x s M ds, RoundQ id K x s M ds → RoundQ id K' x s M ds := by
  intro x s M ds hq
  cases x with
  | normal => obtain ⟨h1, st, pend, sl, n, ps, asn, body, d, h2, h3⟩ := hq; exact ⟨h1, st, pend, sl, n, ps, asn, body, d, h2, h _ _ h3⟩
  | ret => obtain ⟨h1, st, pend, sl, n, ps, asn, body, d, h2, h3⟩ := hq; exact ⟨h1, st, pend, sl, n, ps, asn, body, d, h2, h _ _ h3⟩
  | exit i => obtain ⟨h1, st, pend, sl, n, ps, asn, body, d, h2, h3⟩ := hq; exact ⟨h1, st, pend, sl, n, ps, asn, body, d, h2, h _ _ h3⟩
  | pan v => exact hq
theorem YRound.mono {P : Program} {id : Nat} {args : List Value} {M : AMem} {K K' : Res → AMem → Prop} (hy : YRound P id args M K) (h : ∀ res M, K res M → K' res M) : YRound P id args M K' := by
  obtain ⟨pend, sl, n, ps, asn, body, d, h1, h2, h3⟩ := hy
  refine ⟨pend, sl, n, ps, asn, body, d, h1, h2, fun r => awp_mono (h3 r) ?_⟩
  intro x s M ds hx
  cases x with
  | normal =>
    obtain ⟨g1, pend1, sl1, ps1, asn1, d1, g2, g3⟩ := hx
    exact ⟨g1, pend1, sl1, ps1, asn1, d1, g2, awp_mono g3 (RoundQ.mono h)⟩
  | exit i => exact hx
  | ret => exact hx
  | pan v => exact hx
section
variable {P : Program} {fn : Func} {R : Res → AMem → Prop} {s : Slots} {M M' : AMem} {ds : List Nat} {vs : List Value} {rs : List ResultVar}
theorem bm_ret (hs : Shut ds M M') (hr : fn.results.toList = rs) (h : aresults P s M' rs = some vs) (k : R (.ret (pack vs)) M') : BodyM P fn R .ret s M ds := ⟨M', hs, vs, by rw [hr]; exact h, k⟩
theorem shut_one {d : Nat} (h : M.get d = .defs) : Shut [d] M (M.set d .dead) := ⟨h, rfl⟩
end
def casn : Code → Code | .rangeFunc _ _ a _ => a | _ => .skip
def cbod : Code → Code | .rangeFunc _ _ _ b => b | _ => .skip
theorem at_rf {P : Program} {n : Nat} {s : Slots} {M : AMem} {ds : List Nat} {Q : APost} {S : FuncId → ASpec} {c : Code} {g : Operand} {ps : Array Tmp} (hS : ∀ f, Sound P f (S f)) (hc : c = .rangeFunc g ps (casn c) (cbod c)) (hok : okO n g = true) {f : FuncId} {first cap : Array Value}
    (hg : ev s g = .func (.func f) first cap)
    (h : S f (first.toList ++ [.func (.yield (M.next + 1)) #[] #[]] ++ cap.toList) ((M.alloc .defs).alloc (.loop .ready none s n ps (casn c) (cbod c) M.next)) (RangeK P n (M.next + 1) M.next s ds Q)) :
    awp P none n c Q s M ds := by rw [hc]; exact awp_rangeFunc hS hok hg h
section
variable {P : Program} {r : Option Nat} {n : Nat} {s : Slots} {M : AMem} {ds : List Nat} {Q : APost} {c : Code}
theorem at_slots (h : ∀ s', s' = s → awp P r n c Q s' M ds) : awp P r n c Q s M ds := h s rfl
theorem r_asn {body : Code} {id : Nat} {K : Res → AMem → Prop} {pend : Option Code} {sl : Slots} {ps : Array Tmp} {asn : Code} {d : Nat} (hg : M.get id = .loop .ready pend sl n ps asn body d) (h : awp P r n body (RoundQ id K) s (M.set id (.loop .busy pend sl n ps asn body d)) []) : RoundA P r n body id K .normal s M [] := ⟨rfl, _, _, _, _, _, hg, h⟩
theorem r_norm {body : Code} {id : Nat} {K : Res → AMem → Prop} {st : LoopState} {pend : Option Code} {sl : Slots} {m : Nat} {ps : Array Tmp} {asn : Code} {d : Nat} (hg : M.get id = .loop st pend sl m ps asn body d) (k : K (.ret (.bool true)) (M.set id (.loop .ready none sl m ps asn body d))) : RoundQ id K .normal s M [] := ⟨rfl, _, _, _, _, _, _, _, _, hg, k⟩
theorem rk_done {l d : Nat} {M2 : AMem} {v : Value} {sl : Slots} {m : Nat} {ps : Array Tmp} {asn body : Code} {d' : Nat} (hg : M2.get l = .loop .ready none sl m ps asn body d') (h : Q .normal s (M2.set l (.loop .exhausted none sl m ps asn body d')) (d :: ds)) : RangeK P n l d s ds Q (.ret v) M2 :=
  ⟨_, _, _, _, _, _, _, _, hg, by simp, h⟩
end
theorem kp (i : Nat) {s s' : Slots} {v : Value} (h : s' = s) (e : s i = v) : s' i = v := by rw [h]; exact e
theorem Zx {p : Prop} (h : p) : p := h
theorem Zu : (∀ (s : Slots) (t : Nat), ev s (.tmp t) = s t) ∧ (∀ (s : Slots) (v : Value), ev s (.const v) = v) ∧ (∀ (s : Slots) (f : Nat), ev s (.func f) = .func (.func f) #[] #[]) ∧
    (∀ (s : Slots) (v : Value) (i d : Nat), upd s (some d) v i = if i = d then v else s i) ∧ (∀ (s : Slots) (v : Value), upd s none v = s) ∧ (∀ (α : Type) (a : α), (a = a) = True) :=
  ⟨fun _ _ => rfl, fun _ _ => rfl, fun _ _ => rfl, fun _ _ _ _ => rfl, fun _ _ => rfl, fun _ a => eq_self a⟩
theorem Zd : (∀ (h : Decidable True), @decide True h = true) ∧ (∀ (h : Decidable False), @decide False h = false) ∧ ((!true) = false) ∧ ((!false) = true) ∧ (∀ (α : Type) (h : Decidable True) (a b : α), @ite α True h a b = a) ∧ (∀ (α : Type) (h : Decidable False) (a b : α), @ite α False h a b = b) :=
  ⟨fun _ => by simp, fun _ => by simp, rfl, rfl, fun _ _ _ _ => by simp, fun _ _ _ _ => by simp⟩
theorem Zn : (∀ (M : AMem) (o : AObj), (M.alloc o).next = M.next + 1) ∧ (∀ (M : AMem) (k : Nat) (o : AObj), (M.set k o).next = M.next) := ⟨fun _ _ => rfl, fun _ _ _ => rfl⟩
theorem Zg : (∀ (M : AMem) (o : AObj), (M.alloc o).get M.next = o) ∧ (∀ (M : AMem) (k : Nat) (o : AObj), (M.set k o).get k = o) ∧ (∀ (M : AMem) (a b : AObj), ((M.alloc a).alloc b).get M.next = a) ∧ (∀ (M : AMem) (a b : AObj), ((M.alloc a).alloc b).get (M.next + 1) = b) ∧
    (∀ (M : AMem) (a b c : AObj), (((M.alloc a).alloc b).alloc c).get M.next = a) ∧ (∀ (M : AMem) (a b c : AObj), (((M.alloc a).alloc b).alloc c).get (M.next + 1) = b) ∧ (∀ (M : AMem) (a b c : AObj), (((M.alloc a).alloc b).alloc c).get (M.next + 1 + 1) = c) ∧
    (∀ (M : AMem) (o : AObj) (i : Nat), i = M.next → (M.alloc o).get i = o) ∧ (∀ (M : AMem) (o : AObj) (i : Nat), i ≠ M.next → (M.alloc o).get i = M.get i) ∧ (∀ (M : AMem) (o : AObj) (i k : Nat), i ≠ k → (M.set k o).get i = M.get i) ∧
    (∀ (M : AMem) (o : AObj), (M.alloc o).next = M.next + 1) ∧ (∀ (M : AMem) (k : Nat) (o : AObj), (M.set k o).next = M.next) :=
  ⟨fun _ _ => get_new, fun _ _ _ => get_put, fun _ _ _ => g2_0, fun _ _ _ => g2_1, fun _ _ _ _ => g3_0, fun _ _ _ _ => g3_1, fun _ _ _ _ => g3_2, fun _ _ _ h => get_at h, fun _ _ _ h => get_old h, fun _ _ _ _ h => get_else h, fun _ _ => rfl, fun _ _ _ => rfl⟩
theorem Zl : (∀ (α : Type) (a : α) (l : List α), (a :: l)[0]? = some a) ∧ (∀ (α : Type) (a : α) (l : List α) (i : Nat), (a :: l)[i + 1]? = l[i]?) := ⟨fun _ _ _ => rfl, fun _ _ _ _ => rfl⟩
theorem Zm : (∀ (α β : Type) (f : α → β) (a : α) (l : List α), (a :: l).map f = f a :: l.map f) ∧ (∀ (α β : Type) (f : α → β), ([] : List α).map f = []) ∧ (∀ (α : Type) (l : List α), [] ++ l = l) ∧ (∀ (α : Type) (l : List α), l ++ [] = l) ∧ (∀ (α : Type) (a : α) (l : List α), [a] ++ l = a :: l) ∧ (∀ (α : Type) (a : α) (l k : List α), (a :: l) ++ k = a :: (l ++ k)) :=
  ⟨fun _ _ _ _ _ => rfl, fun _ _ _ => rfl, fun _ _ => rfl, fun _ l => List.append_nil l, fun _ _ _ => rfl, fun _ _ _ _ => rfl⟩
theorem Zh : (∀ (p : Prop) (h : Decidable p), (@decide p h = true) = p) ∧ (∀ (p : Prop) (h : Decidable p), (@decide p h = false) = ¬ p) ∧ (∀ b : Bool, ((!b) = true) = (b = false)) ∧ (∀ b : Bool, ((!b) = false) = (b = true)) ∧ (∀ b : Bool, (¬ b = true) = (b = false)) ∧ (∀ b : Bool, (¬ b = false) = (b = true)) :=
  ⟨fun p h => by simp, fun p h => by simp, fun b => by simp, fun b => by simp, fun b => by simp, fun b => by simp⟩
section
variable {P : Program} {S : FuncId → ASpec} {os : List AOp} {s : Slots} {M : AMem} {K : Out → Prop} {d : Option Nat} {ty : TypeId} {v : Value}
theorem s_tk {op : Op} {g : Nat} {b want : Bool} (k : EA P S (⟨d, op, ty, none⟩ :: os) s M K) (h : s g = .bool b := by simp only [Zu, Nat.reduceEqDiff, ↓reduceIte] <;> rfl) (hb : b = want := by first | rfl | assumption) : EA P S (⟨d, op, ty, some (g, want)⟩ :: os) s M K := s_take (w_true h hb) k
theorem s_lv {op : Op} {g : Nat} {b want : Bool} (k : EA P S os (upd s d undef) M K) (h : s g = .bool b := by simp only [Zu, Nat.reduceEqDiff, ↓reduceIte] <;> rfl) (hb : b = !want := by first | rfl | assumption) : EA P S (⟨d, op, ty, some (g, want)⟩ :: os) s M K := s_leave (w_false h hb) k
theorem s_mv {x : Operand} (k : EA P S os (upd s d v) M K) (h : ev s x = v := by simp only [Zu, Nat.reduceEqDiff, ↓reduceIte] <;> rfl) : EA P S (⟨d, .move x, ty, none⟩ :: os) s M K := s_op (a_mv h) rfl k
theorem s_as {x : Operand} (k : EA P S os (upd s d v) M K) (h : ev s x = v := by simp only [Zu, Nat.reduceEqDiff, ↓reduceIte] <;> rfl) : EA P S (⟨d, .assign x, ty, none⟩ :: os) s M K := s_op (a_as h) rfl k
end
end Go.Proofs.Ytdkdkpiemigfkaa
set_option linter.unusedVariables false
set_option linter.unusedSimpArgs false
set_option maxRecDepth 4000
namespace Go.Proofs.Ytdkdkpiemigfkaa
open Go Go.Proofs
theorem aload_one {P : Program} {t : TypeId} {d : TypeDesc} {i : TypeInfo} (ht : P.underlying t = some d) (hi : P.info? t = some i) (ha : aggD d = false) (cs : List Value) (off : Nat) : aload P t cs off = cs[off]? := by
  simp only [aload, ht, hi, ha]; rfl
theorem aload_agg {P : Program} {t : TypeId} {d : TypeDesc} {i : TypeInfo} (ht : P.underlying t = some d) (hi : P.info? t = some i) (ha : aggD d = true) {n : Nat} (hn : i.size = n) {cs : List Value} {off : Nat} (hle : off + n ≤ cs.length) : aload P t cs off = some (.agg ((cs.drop off).take n).toArray) := by
  subst hn
  simp only [aload, ht, hi, ha, if_true, hle]
theorem aload_whole {P : Program} {t : TypeId} {d : TypeDesc} {i : TypeInfo} (ht : P.underlying t = some d) (hi : P.info? t = some i) (ha : aggD d = true) {cs : List Value} (hn : cs.length = i.size) : aload P t cs 0 = some (.agg cs.toArray) := by
  rw [aload_agg ht hi ha rfl (by omega), ← hn, List.drop_zero, List.take_length]
theorem astore_one {P : Program} {t : TypeId} {i : TypeInfo} (hi : P.info? t = some i) (hs : i.size = 1) {cs : List Value} {off : Nat} {v : Value} (hv : v.cells = #[v]) (h1 : v.oneCell' = true) (hle : off < cs.length) : astore P t cs off v = some (cs.set off v) := by
  simp only [astore, hi]
  rw [if_pos ⟨by rw [hv, hs]; rfl, by rw [hv]; show off + 1 ≤ cs.length; omega, by rw [hv]; simp [h1]⟩, hv]
  rfl
theorem astore_whole {P : Program} {t : TypeId} {i : TypeInfo} (hi : P.info? t = some i) {cs vs : List Value} (hs : cs.length = i.size) (hv : vs.length = i.size) (h1 : vs.all (·.oneCell') = true) : astore P t cs 0 (.agg vs.toArray) = some vs := by
  simp only [astore, hi]
  have hc : (Value.agg vs.toArray).cells = vs.toArray := rfl
  rw [hc]
  rw [if_pos ⟨by simpa using hv, by simp; omega, by simpa using h1⟩]
  have := aput_mid vs [] cs [] (by omega)
  simp only [Zm, List.length_nil] at this
  rw [this]
theorem aindexAddr_arr {P : Program} {t el : TypeId} {len id off : Nat} {i : TypeInfo} (ht : P.underlying t = some (.array len el)) (hi : P.info? el = some i) {j : Int} {k : IntKind} (h0 : 0 ≤ j) (h1 : j < len) :
    aindexAddr P t (.pointer (some ⟨id, off, none⟩)) (.int k j) = some (.pointer (some ⟨id, off + j.toNat * i.size, none⟩)) := by
  simp only [aindexAddr, ht, hi, h0, h1, and_self, if_true]
def cumP : Nat → List Nat → List (Nat × Nat)
  | _, [] => []
  | o, n :: ns => (o, n) :: cumP (o + n) ns
theorem cumP_get : ∀ (ns : List Nat) (o k : Nat), (cumP o ns)[k]? = (ns[k]?).map fun n => (o + (ns.take k).sum, n) := by
  intro ns
  induction ns with
  | nil => intro o k; simp [cumP]
  | cons n ns ih =>
    intro o k
    cases k with
    | zero => simp [cumP]
    | succ k => simp only [cumP, List.getElem?_cons_succ, ih, List.take_succ_cons, List.sum_cons]; congr 1; funext m; rw [Nat.add_assoc]
theorem afill_cum (ns : List Nat) : ∀ (vs done : List Value) (k : Nat) (rest : List Value), ns.drop k = vs.map (fun v => v.cells.size) → done.length = (ns.take k).sum → rest.length = (vs.map fun v => v.cells.size).sum →
    afill (fun j => (cumP 0 ns)[j]?) (done ++ rest) (enumV k vs) = some (done ++ vs.flatMap fun v => v.cells.toList) := by
  intro vs
  induction vs with
  | nil =>
    intro done k rest _ _ h3
    have : rest = [] := List.eq_nil_of_length_eq_zero (by simpa using h3)
    subst this
    simp [enumV, afill]
  | cons v vs ih =>
    intro done k rest h1 h2 h3
    have hk : ns[k]? = some v.cells.size := by
      have : (ns.drop k)[0]? = some v.cells.size := by rw [h1]; rfl
      rw [List.getElem?_drop] at this
      simpa using this
    have hd : ns.drop (k + 1) = vs.map fun v => v.cells.size := by
      rw [← List.drop_drop, h1]; rfl
    have hs : (ns.take (k + 1)).sum = (ns.take k).sum + v.cells.size := by
      rw [List.take_add_one, hk]; simp
    simp only [List.map_cons, List.sum_cons] at h3
    have hpl : (cumP 0 ns)[k]? = some ((ns.take k).sum, v.cells.size) := by rw [cumP_get, hk]; simp
    simp only [enumV, afill, hpl]
    rw [if_pos ⟨trivial, by rw [List.length_append, ← h2]; omega⟩]
    have hsplit : done ++ rest = done ++ rest.take v.cells.size ++ rest.drop v.cells.size := by rw [List.append_assoc, List.take_append_drop]
    rw [hsplit, ← h2, aput_mid v.cells.toList done (rest.take v.cells.size) (rest.drop v.cells.size) (by rw [List.length_take]; simp; omega)]
    rw [ih (done ++ v.cells.toList) (k + 1) (rest.drop v.cells.size) hd (by rw [hs, List.length_append, h2]; simp) (by rw [List.length_drop]; omega)]
    simp
theorem abuild_all {P : Program} {t : TypeId} {fs : Array Field} {i : TypeInfo} {z : Value} (ns : List Nat) (vs : List Value) (ht : P.underlying t = some (.struct fs)) (hi : P.info? t = some i) (hz : i.zero = some z) (hf : flat z = true)
    (hp : peval P (fs.mapM fun f => Prod.mk f.offset <$> sizeOf f.type) = some (cumP 0 ns).toArray) (hl : z.cells.size = ns.sum) (hv : vs.map (fun v => v.cells.size) = ns) : abuild P t (enumV 0 vs) = some (vs.flatMap fun v => v.cells.toList) := by
  have := afill_cum ns vs [] 0 z.cells.toList (by simpa using hv.symm) (by simp) (by rw [hv]; simpa using hl)
  simp only [List.nil_append] at this
  simp only [abuild, ht, hi, hz, hp, hf, if_true]
  simp only [List.getElem?_toArray]
  exact this
theorem ld3 (cs : List Value) (off : Nat) : aload Try.prog 3 cs off = cs[off]? := aload_one Try.underlying3 rfl rfl cs off
theorem ld4 (cs : List Value) (off : Nat) : aload Try.prog 4 cs off = cs[off]? := aload_one Try.underlying4 rfl rfl cs off
theorem ld5 (cs : List Value) (off : Nat) : aload Try.prog 5 cs off = cs[off]? := aload_one Try.underlying5 rfl rfl cs off
theorem ld9 (cs : List Value) (off : Nat) : aload Try.prog 9 cs off = cs[off]? := aload_one Try.underlying9 rfl rfl cs off
theorem ld23 (cs : List Value) (off : Nat) : aload Try.prog 23 cs off = cs[off]? := aload_one Try.underlying23 rfl rfl cs off
theorem ld29 (cs : List Value) (off : Nat) : aload Try.prog 29 cs off = cs[off]? := aload_one Try.underlying29 rfl rfl cs off
theorem st5 {cs : List Value} {off : Nat} {n : Int} (h : off < cs.length) : astore Try.prog 5 cs off (.int .u8 n) = some (cs.set off (.int .u8 n)) := astore_one (i := _) (by rfl) rfl rfl rfl h
theorem st3 {cs : List Value} {off : Nat} {n : Int} (h : off < cs.length) : astore Try.prog 3 cs off (.int .i64 n) = some (cs.set off (.int .i64 n)) := astore_one (i := _) (by rfl) rfl rfl rfl h
theorem st23 {cs : List Value} {off : Nat} {n : Int} (h : off < cs.length) : astore Try.prog 23 cs off (.int .u32 n) = some (cs.set off (.int .u32 n)) := astore_one (i := _) (by rfl) rfl rfl rfl h
theorem st9 {cs : List Value} {off : Nat} {l : List UInt8} (h : off < cs.length) : astore Try.prog 9 cs off (asString l) = some (cs.set off (asString l)) := astore_one (i := _) (by rfl) rfl rfl rfl h
theorem z61 : azero Try.prog 61 = some [.int .u8 0, .int .u8 0, .int .u8 0, .int .u8 0, .int .u8 0, .int .u8 0, .int .u8 0, .int .u8 0, .int .u8 0, .int .u8 0, .int .u8 0, .int .u8 0, .int .i64 0] := by kernel_rfl
theorem b61 : abuild Try.prog 61 [] = some [.int .u8 0, .int .u8 0, .int .u8 0, .int .u8 0, .int .u8 0, .int .u8 0, .int .u8 0, .int .u8 0, .int .u8 0, .int .u8 0, .int .u8 0, .int .u8 0, .int .i64 0] := by kernel_rfl
structure IPh where
  tos : Int
  id : Int
  more : Bool
  keep : Bool
  off : Int
  ttl : Int
  proto : Int
  src : Int
  dst : Int
  opts : List UInt8
def IPh.cells (h : IPh) : List Value := [.int .i64 h.tos, .int .i64 h.id, .bool h.more, .bool h.keep, .int .i64 h.off, .int .i64 h.ttl, .int .i64 h.proto, .int .u32 h.src, .int .u32 h.dst, asString h.opts]
structure Segh where
  src : Int
  dst : Int
  seq : Int
  ack : Int
  flags : Int
  win : Int
  opts : List UInt8
def Segh.cells (h : Segh) : List Value := [.int .i64 h.src, .int .i64 h.dst, .int .u32 h.seq, .int .u32 h.ack, .int .i64 h.flags, .int .i64 h.win, asString h.opts]
structure Tup where
  proto : Int
  src : Int
  dst : Int
  sp : Int
  dp : Int
def Tup.cells (h : Tup) : List Value := [.int .i64 h.proto, .int .u32 h.src, .int .u32 h.dst, .int .i64 h.sp, .int .i64 h.dp]
theorem z57 : azero Try.prog 57 = some (Segh.cells ⟨0, 0, 0, 0, 0, 0, []⟩) := by kernel_rfl
theorem z64 : azero Try.prog 64 = some (IPh.cells ⟨0, 0, false, false, 0, 0, 0, 0, 0, []⟩) := by kernel_rfl
theorem b57 : abuild Try.prog 57 [] = some (Segh.cells ⟨0, 0, 0, 0, 0, 0, []⟩) := by kernel_rfl
theorem b64 : abuild Try.prog 64 [] = some (IPh.cells ⟨0, 0, false, false, 0, 0, 0, 0, 0, []⟩) := by kernel_rfl
theorem ld57 (h : Segh) : aload Try.prog 57 h.cells 0 = some (.agg h.cells.toArray) := aload_whole Try.underlying57 (i := _) (by rfl) rfl rfl
theorem ld64 (h : IPh) : aload Try.prog 64 h.cells 0 = some (.agg h.cells.toArray) := aload_whole Try.underlying64 (i := _) (by rfl) rfl rfl
theorem ld39 (h : Tup) : aload Try.prog 39 h.cells 0 = some (.agg h.cells.toArray) := aload_whole Try.underlying39 (i := _) (by rfl) rfl rfl
theorem st57 (h k : Segh) : astore Try.prog 57 h.cells 0 (.agg k.cells.toArray) = some k.cells := astore_whole (i := _) (by rfl) rfl rfl rfl
theorem st64 (h k : IPh) : astore Try.prog 64 h.cells 0 (.agg k.cells.toArray) = some k.cells := astore_whole (i := _) (by rfl) rfl rfl rfl
theorem bd39 (h : Tup) : abuild Try.prog 39 [(0, .int .i64 h.proto), (1, .int .u32 h.src), (2, .int .u32 h.dst), (3, .int .i64 h.sp), (4, .int .i64 h.dp)] = some h.cells :=
  abuild_all (i := _) (z := _) [1, 1, 1, 1, 1] [.int .i64 h.proto, .int .u32 h.src, .int .u32 h.dst, .int .i64 h.sp, .int .i64 h.dp] Try.underlying39 (by rfl) rfl (by kernel_rfl) (by kernel_rfl) (by kernel_rfl) rfl
theorem fa31_0 (id off : Nat) : afieldAddr Try.prog 31 (.pointer (some ⟨id, off, none⟩)) 0 = some (.pointer (some ⟨id, off, none⟩)) := by kernel_rfl
theorem fa31_1 (id off : Nat) : afieldAddr Try.prog 31 (.pointer (some ⟨id, off, none⟩)) 1 = some (.pointer (some ⟨id, off + 1, none⟩)) := by kernel_rfl
theorem fa34_0 (id off : Nat) : afieldAddr Try.prog 34 (.pointer (some ⟨id, off, none⟩)) 0 = some (.pointer (some ⟨id, off, none⟩)) := by kernel_rfl
theorem fa34_1 (id off : Nat) : afieldAddr Try.prog 34 (.pointer (some ⟨id, off, none⟩)) 1 = some (.pointer (some ⟨id, off + 1, none⟩)) := by kernel_rfl
theorem fa53_0 (id off : Nat) : afieldAddr Try.prog 53 (.pointer (some ⟨id, off, none⟩)) 0 = some (.pointer (some ⟨id, off, none⟩)) := by kernel_rfl
theorem fa53_1 (id off : Nat) : afieldAddr Try.prog 53 (.pointer (some ⟨id, off, none⟩)) 1 = some (.pointer (some ⟨id, off + 1, none⟩)) := by kernel_rfl
theorem fa53_2 (id off : Nat) : afieldAddr Try.prog 53 (.pointer (some ⟨id, off, none⟩)) 2 = some (.pointer (some ⟨id, off + 2, none⟩)) := by kernel_rfl
theorem fa53_3 (id off : Nat) : afieldAddr Try.prog 53 (.pointer (some ⟨id, off, none⟩)) 3 = some (.pointer (some ⟨id, off + 3, none⟩)) := by kernel_rfl
theorem fa57_0 (id off : Nat) : afieldAddr Try.prog 57 (.pointer (some ⟨id, off, none⟩)) 0 = some (.pointer (some ⟨id, off, none⟩)) := by kernel_rfl
theorem fa57_1 (id off : Nat) : afieldAddr Try.prog 57 (.pointer (some ⟨id, off, none⟩)) 1 = some (.pointer (some ⟨id, off + 1, none⟩)) := by kernel_rfl
theorem fa57_2 (id off : Nat) : afieldAddr Try.prog 57 (.pointer (some ⟨id, off, none⟩)) 2 = some (.pointer (some ⟨id, off + 2, none⟩)) := by kernel_rfl
theorem fa57_3 (id off : Nat) : afieldAddr Try.prog 57 (.pointer (some ⟨id, off, none⟩)) 3 = some (.pointer (some ⟨id, off + 3, none⟩)) := by kernel_rfl
theorem fa57_4 (id off : Nat) : afieldAddr Try.prog 57 (.pointer (some ⟨id, off, none⟩)) 4 = some (.pointer (some ⟨id, off + 4, none⟩)) := by kernel_rfl
theorem fa57_5 (id off : Nat) : afieldAddr Try.prog 57 (.pointer (some ⟨id, off, none⟩)) 5 = some (.pointer (some ⟨id, off + 5, none⟩)) := by kernel_rfl
theorem fa57_6 (id off : Nat) : afieldAddr Try.prog 57 (.pointer (some ⟨id, off, none⟩)) 6 = some (.pointer (some ⟨id, off + 6, none⟩)) := by kernel_rfl
theorem fa61_0 (id off : Nat) : afieldAddr Try.prog 61 (.pointer (some ⟨id, off, none⟩)) 0 = some (.pointer (some ⟨id, off, none⟩)) := by kernel_rfl
theorem fa61_1 (id off : Nat) : afieldAddr Try.prog 61 (.pointer (some ⟨id, off, none⟩)) 1 = some (.pointer (some ⟨id, off + 6, none⟩)) := by kernel_rfl
theorem fa61_2 (id off : Nat) : afieldAddr Try.prog 61 (.pointer (some ⟨id, off, none⟩)) 2 = some (.pointer (some ⟨id, off + 12, none⟩)) := by kernel_rfl
theorem fa64_0 (id off : Nat) : afieldAddr Try.prog 64 (.pointer (some ⟨id, off, none⟩)) 0 = some (.pointer (some ⟨id, off, none⟩)) := by kernel_rfl
theorem fa64_1 (id off : Nat) : afieldAddr Try.prog 64 (.pointer (some ⟨id, off, none⟩)) 1 = some (.pointer (some ⟨id, off + 1, none⟩)) := by kernel_rfl
theorem fa64_2 (id off : Nat) : afieldAddr Try.prog 64 (.pointer (some ⟨id, off, none⟩)) 2 = some (.pointer (some ⟨id, off + 2, none⟩)) := by kernel_rfl
theorem fa64_3 (id off : Nat) : afieldAddr Try.prog 64 (.pointer (some ⟨id, off, none⟩)) 3 = some (.pointer (some ⟨id, off + 3, none⟩)) := by kernel_rfl
theorem fa64_4 (id off : Nat) : afieldAddr Try.prog 64 (.pointer (some ⟨id, off, none⟩)) 4 = some (.pointer (some ⟨id, off + 4, none⟩)) := by kernel_rfl
theorem fa64_5 (id off : Nat) : afieldAddr Try.prog 64 (.pointer (some ⟨id, off, none⟩)) 5 = some (.pointer (some ⟨id, off + 5, none⟩)) := by kernel_rfl
theorem fa64_6 (id off : Nat) : afieldAddr Try.prog 64 (.pointer (some ⟨id, off, none⟩)) 6 = some (.pointer (some ⟨id, off + 6, none⟩)) := by kernel_rfl
theorem fa64_7 (id off : Nat) : afieldAddr Try.prog 64 (.pointer (some ⟨id, off, none⟩)) 7 = some (.pointer (some ⟨id, off + 7, none⟩)) := by kernel_rfl
theorem fa64_8 (id off : Nat) : afieldAddr Try.prog 64 (.pointer (some ⟨id, off, none⟩)) 8 = some (.pointer (some ⟨id, off + 8, none⟩)) := by kernel_rfl
theorem fa64_9 (id off : Nat) : afieldAddr Try.prog 64 (.pointer (some ⟨id, off, none⟩)) 9 = some (.pointer (some ⟨id, off + 9, none⟩)) := by kernel_rfl
theorem fa71_0 (id off : Nat) : afieldAddr Try.prog 71 (.pointer (some ⟨id, off, none⟩)) 0 = some (.pointer (some ⟨id, off, none⟩)) := by kernel_rfl
theorem fa71_1 (id off : Nat) : afieldAddr Try.prog 71 (.pointer (some ⟨id, off, none⟩)) 1 = some (.pointer (some ⟨id, off + 5, none⟩)) := by kernel_rfl
theorem fa71_2 (id off : Nat) : afieldAddr Try.prog 71 (.pointer (some ⟨id, off, none⟩)) 2 = some (.pointer (some ⟨id, off + 12, none⟩)) := by kernel_rfl
theorem fa121_0 (id off : Nat) : afieldAddr Try.prog 121 (.pointer (some ⟨id, off, none⟩)) 0 = some (.pointer (some ⟨id, off, none⟩)) := by kernel_rfl
theorem fa121_1 (id off : Nat) : afieldAddr Try.prog 121 (.pointer (some ⟨id, off, none⟩)) 1 = some (.pointer (some ⟨id, off + 7, none⟩)) := by kernel_rfl
theorem fa121_2 (id off : Nat) : afieldAddr Try.prog 121 (.pointer (some ⟨id, off, none⟩)) 2 = some (.pointer (some ⟨id, off + 8, none⟩)) := by kernel_rfl
end Go.Proofs.Ytdkdkpiemigfkaa
set_option linter.unusedVariables false
set_option linter.unusedSimpArgs false
set_option maxRecDepth 4000
namespace Go.Proofs.Ytdkdkpiemigfkaa
open Go Go.Proofs
theorem tmod_emod {v n : Int} (h : 0 < n) : v.tmod n = if v % n = 0 ∨ 0 ≤ v then v % n else v % n - n := by
  rw [Int.tmod_eq_emod]
  have : (n.natAbs : Int) = n := by omega
  split <;> rename_i h1
  · rw [if_pos]; omega
    rcases h1 with h1 | h1
    · exact .inr h1
    · exact .inl (Int.emod_eq_zero_of_dvd h1)
  · rw [if_neg]; omega
    intro h2
    apply h1
    rcases h2 with h2 | h2
    · exact .inr (Int.dvd_of_emod_eq_zero h2)
    · exact .inl h2
def sp8 : ASpec := fun args M K => ∃ v n : Int, args = [.int .i64 v, .int .i64 n] ∧ (0 < n ∧ n ≤ 9223372036854775807 ∧ -9223372036854775808 ≤ v ∧ v ≤ 9223372036854775807) ∧ K (.ret (.int .i64 (v % n))) M
theorem f8_ok : Sound Try.prog 8 sp8 := by
  refine Sound.of_awp (c := bodyOf Try.f8) Try.func8 rfl rfl rfl ?_
  rintro args M K ⟨v, n, rfl, ⟨h0, h1, h2, h3⟩, hK⟩
  refine ⟨Nat.le_of_ble_eq_true rfl, ?_⟩
  have hS := noS_ok Try.prog
  have e0 : entry [.int .i64 v, .int .i64 n] 0 = .int .i64 v := rfl
  have e1 : entry [.int .i64 v, .int .i64 n] 1 = .int .i64 n := rfl
  have hm := tmod_emod (v := v) h0
  have hb1 := Int.emod_nonneg v (show n ≠ 0 by omega)
  have hb2 := Int.emod_lt_of_pos v h0
  repeat refine at_seq rfl ?_
  refine at_region hS rfl (by kernel_rfl) ?_
  refine s_op (a_as (by simp only [ev_const] <;> rfl)) rfl ?_
  refine s_end (fun s' hs' => ?_)
  replace e0 := kp 0 hs' e0
  replace e1 := kp 1 hs' e1
  clear hs'
  refine o_norm ?_
  refine t_norm ?_
  repeat refine at_seq rfl ?_
  refine at_region hS rfl (by kernel_rfl) ?_
  refine s_op (a_mv e0) rfl ?_
  refine s_op (a_mv e1) rfl ?_
  refine s_op (a_bin (by simp (disch := omega) only [Zu, Nat.reduceEqDiff, ↓reduceIte, Zd, reduceCtorEq, abin_rem, Int.tmod_eq_emod_of_nonneg, ne_eq, not_false_eq_true] <;> rfl)) rfl ?_
  refine s_as ?_
  refine s_end (fun s' hs' => ?_)
  replace e1 := kp 1 hs' e1
  have e5 := congrFun hs' 5
  simp only [Zu, Nat.reduceEqDiff, ↓reduceIte] at e5
  clear hs'
  try clear e0
  refine o_norm ?_
  refine t_norm ?_
  generalize v.tmod n = r at *
  repeat refine at_seq rfl ?_
  refine at_region hS rfl (by kernel_rfl) ?_
  refine s_op (a_mv e5) rfl ?_
  refine s_op (a_bin (by simp (disch := omega) only [Zu, Nat.reduceEqDiff, ↓reduceIte, Zd, reduceCtorEq, abin_lss, ne_eq, not_false_eq_true] <;> rfl)) rfl ?_
  refine s_end (fun s' hs' => ?_)
  replace e1 := kp 1 hs' e1
  replace e5 := kp 5 hs' e5
  have e10 := congrFun hs' 10
  simp only [Zu, Nat.reduceEqDiff, ↓reduceIte] at e10
  clear hs'
  refine o_norm ?_
  refine t_norm ?_
  refine at_cond rfl rfl e10 (fun hc => ?_) (fun hc => ?_)
  · have hc := of_decide_eq_true hc
    refine at_region hS rfl (by kernel_rfl) ?_
    refine s_op (a_mv e5) rfl ?_
    refine s_op (a_mv e1) rfl ?_
    refine s_op (a_bin (by simp (disch := ((try simp only [List.length_append, List.length_cons, List.length_nil]); omega)) only [Zu, Nat.reduceEqDiff, ↓reduceIte, Zd, reduceCtorEq, abin_add, abin_aadd, wrap_i64, wrap_u32, wrap_u8, wrap_u64, wrap_i32, wrap_u16, ne_eq, not_false_eq_true] <;> rfl)) rfl ?_
    refine s_as ?_
    refine s_end (fun s' hs' => ?_)
    replace e5 := congrFun hs' 5
    simp only [Zu, Nat.reduceEqDiff, ↓reduceIte] at e5
    clear hs'
    try clear e1
    refine o_norm ?_
    refine t_norm ?_
    repeat refine at_seq rfl ?_
    refine at_region hS rfl (by kernel_rfl) ?_
    refine s_op (a_mv e5) rfl ?_
    refine s_as ?_
    refine s_end (fun s' hs' => ?_)
    have e4 := congrFun hs' 4
    simp only [Zu, Nat.reduceEqDiff, ↓reduceIte] at e4
    clear hs'
    try clear e5
    refine o_norm ?_
    refine t_norm ?_
    refine at_ret rfl ?_
    refine bq_ret rfl (ars_cons (ar_tmp e4) ars_nil) ?_
    have : r + n = v % n := by rw [hm] at hc ⊢; split at hc <;> split <;> omega
    rw [this]
    exact ⟨_, _, hK, Canon.refl (Nat.le_refl _)⟩
  · have hc := of_decide_eq_false hc
    refine at_skip rfl ?_
    refine t_norm ?_
    repeat refine at_seq rfl ?_
    refine at_region hS rfl (by kernel_rfl) ?_
    refine s_op (a_mv e5) rfl ?_
    refine s_as ?_
    refine s_end (fun s' hs' => ?_)
    have e4 := congrFun hs' 4
    simp only [Zu, Nat.reduceEqDiff, ↓reduceIte] at e4
    clear hs'
    try clear e5
    refine o_norm ?_
    refine t_norm ?_
    refine at_ret rfl ?_
    refine bq_ret rfl (ars_cons (ar_tmp e4) ars_nil) ?_
    have : r = v % n := by rw [hm] at hc ⊢; split at hc <;> split <;> omega
    rw [this]
    exact ⟨_, _, hK, Canon.refl (Nat.le_refl _)⟩
end Go.Proofs.Ytdkdkpiemigfkaa
set_option linter.unusedVariables false
set_option linter.unusedSimpArgs false
set_option maxRecDepth 4000
namespace Go.Proofs.Ytdkdkpiemigfkaa
open Go Go.Proofs
def bigF (v : Int) : Nat → List UInt8
  | 0 => []
  | n + 1 => bigF (v / 256) n ++ [UInt8.ofNat (v % 256).toNat]
def inI64 (v : Int) : Prop := -9223372036854775808 ≤ v ∧ v ≤ 9223372036854775807
def sp52 : ASpec := fun args M K => ∃ v n : Int, args = [.int .i64 v, .int .i64 n] ∧ (inI64 v ∧ 0 ≤ n ∧ n ≤ 8) ∧ K (.ret (asString (bigF v n.toNat))) M
def bigTail (v : Int) : Nat → List UInt8
  | 0 => []
  | i + 1 => UInt8.ofNat ((v / 256 ^ i) % 256).toNat :: bigTail v i
theorem bigF_tail (v : Int) : ∀ n, bigF v n = bigTail v n := by
  intro n
  induction n generalizing v with
  | zero => rfl
  | succ n ih =>
    simp only [bigF]
    rw [ih]
    clear ih
    induction n generalizing v with
    | zero => simp [bigTail]
    | succ n ih =>
      simp only [bigTail, List.cons_append]
      rw [ih]
      simp only [bigTail]
      congr 3
      rw [Int.ediv_ediv_of_nonneg (by decide), Int.pow_succ', ]
theorem f52_ok : Sound Try.prog 52 sp52 := by
  refine Sound.of_awp (c := bodyOf Try.f52) Try.func52 rfl rfl rfl ?_
  rintro args M K ⟨v, n, rfl, ⟨⟨hv1, hv2⟩, hn0, hn1⟩, hK⟩
  refine ⟨Nat.le_of_ble_eq_true rfl, ?_⟩
  have hS := noS_ok Try.prog
  have e0 : entry [.int .i64 v, .int .i64 n] 0 = .int .i64 v := rfl
  have e1 : entry [.int .i64 v, .int .i64 n] 1 = .int .i64 n := rfl
  repeat refine at_seq rfl ?_
  refine at_region hS rfl (by kernel_rfl) ?_
  refine s_op (a_as (by simp only [ev_const] <;> rfl)) rfl ?_
  refine s_end (fun s' hs' => ?_)
  replace e0 := kp 0 hs' e0
  replace e1 := kp 1 hs' e1
  clear hs'
  refine o_norm ?_
  refine t_norm ?_
  repeat refine at_seq rfl ?_
  refine at_region hS rfl (by kernel_rfl) ?_
  refine s_op (a_as (by simp only [ev_const] <;> rfl)) rfl ?_
  refine s_end (fun s' hs' => ?_)
  replace e0 := kp 0 hs' e0
  replace e1 := kp 1 hs' e1
  have e5 := congrFun hs' 5
  simp only [Zu, Nat.reduceEqDiff, ↓reduceIte] at e5
  clear hs'
  refine o_norm ?_
  refine t_norm ?_
  repeat refine at_seq rfl ?_
  refine at_region hS rfl (by kernel_rfl) ?_
  refine s_op (a_as (by simp only [ev_const] <;> rfl)) rfl ?_
  refine s_end (fun s' hs' => ?_)
  replace e0 := kp 0 hs' e0
  replace e1 := kp 1 hs' e1
  replace e5 := kp 5 hs' e5
  have e6 := congrFun hs' 6
  simp only [Zu, Nat.reduceEqDiff, ↓reduceIte] at e6
  clear hs'
  refine o_norm ?_
  refine t_norm ?_
  repeat refine at_seq rfl ?_
  refine at_block rfl ?_
  refine at_loop rfl (fun k s M' ds => ∃ (i : Nat) (u : Int), s 0 = .int .i64 u ∧ s 1 = .int .i64 n ∧ s 5 = asString (bigTail v i) ∧ s 6 = .int .i64 i ∧ i ≤ n.toNat ∧ k = n.toNat - i ∧ inI64 u ∧ u = v / 256 ^ i ∧ M.next ≤ M'.next ∧ (∀ j, j < M.next → M'.get j = M.get j) ∧ ds = []) n.toNat
    ⟨0, v, e0, e1, e5, e6, by omega, by omega, ⟨hv1, hv2⟩, by simp, Nat.le_refl _, fun _ _ => rfl, rfl⟩ ?_
  clear e0 e1 e5 e6
  rintro k s M' ds ⟨i, u, e0, e1, e5, e6, hi, hk, ⟨hu1, hu2⟩, huv, hnx, hold, rfl⟩
  repeat refine at_seq rfl ?_
  by_cases hlt : (i : Int) < n
  · have hlt8 : (i : Int) < 8 := by omega
    refine at_region hS rfl (by kernel_rfl) ?_
    refine s_op (a_mv e6) rfl ?_
    refine s_op (a_mv e1) rfl ?_
    refine s_op (a_bin (by simp (disch := omega) only [Zu, Nat.reduceEqDiff, ↓reduceIte, Zd, reduceCtorEq, abin_lss, ne_eq, not_false_eq_true, hlt, hlt8] <;> rfl)) rfl ?_
    refine s_mv ?_
    refine s_tk ?_
    refine s_op (a_mv e6) rfl ?_
    refine s_tk ?_
    refine s_op (a_bin (by simp (disch := omega) only [Zu, Nat.reduceEqDiff, ↓reduceIte, Zd, reduceCtorEq, abin_lss, ne_eq, not_false_eq_true, hlt, hlt8] <;> rfl)) rfl ?_
    refine s_op (a_pick (by simp only [Zu, Nat.reduceEqDiff, ↓reduceIte, Zd, reduceCtorEq, hlt, hlt8] <;> rfl) (by simp only [Zu, Nat.reduceEqDiff, ↓reduceIte, Zd, reduceCtorEq, hlt, hlt8] <;> rfl)) rfl ?_
    refine s_end (fun s' hs' => ?_)
    replace e0 := kp 0 hs' e0
    replace e1 := kp 1 hs' e1
    replace e5 := kp 5 hs' e5
    replace e6 := kp 6 hs' e6
    have e13 := congrFun hs' 13
    simp only [Zu, Nat.reduceEqDiff, ↓reduceIte] at e13
    clear hs'
    refine o_norm ?_
    refine t_norm ?_
    repeat refine at_seq rfl ?_
    refine at_cond rfl rfl e13 (fun _ => ?_) (fun hc => by cases hc)
    refine at_skip rfl ?_
    refine t_norm ?_
    repeat refine at_seq rfl ?_
    refine at_block rfl ?_
    repeat refine at_seq rfl ?_
    have hlen : ((([UInt8.ofNat (u % 256).toNat].length + (bigTail v i).length : Nat)) : Int) ≤ 9223372036854775807 := by
      have : ∀ i, (bigTail v i).length = i := by
        intro i; induction i with
        | zero => rfl
        | succ i ih => simp [bigTail, ih]
      simp [this]; omega
    have hstr : aconv Try.prog (M'.alloc (.cells [.int .u8 (u % 256)] true)) 55 9 (.slice (some ⟨M'.next, 0, none⟩) 1 1) = some (asString [UInt8.ofNat (u % 256).toNat], M'.alloc (.cells [.int .u8 (u % 256)] true)) := by
      have hb : [Value.int .u8 (u % 256)] = byteCells [UInt8.ofNat (u % 256).toNat] := by
        simp [byteCells]; omega
      refine Row.str (el := 5) (len := 1) ⟨by simp [byteCells], .inr ⟨M'.next, 0, [.int .u8 (u % 256)], true, rfl, by simp, get_new, by simp, ?_⟩⟩ Try.underlying55 Try.underlying5 Try.underlying9
      rw [← hb]; rfl
    refine at_region hS rfl (by kernel_rfl) ?_
    refine s_op (a_mv e0) rfl ?_
    refine s_op (a_convi (by simp only [Zu, Nat.reduceEqDiff, ↓reduceIte] <;> rfl) rfl rfl (by simp (disch := omega) only [wrapm_u8, Int.emod_eq_of_lt]; try rfl)) rfl ?_
    refine s_op (a_bslice (by simp only [Zu, Nat.reduceEqDiff, ↓reduceIte, Zm, Array.toList]; exact abuildSlice_all [_] rfl rfl rfl rfl rfl (by decide) (by decide) rfl (by simp only [List.mem_cons, List.not_mem_nil, or_false, forall_eq_or_imp, forall_eq]; repeat' (first | rfl | apply And.intro)))) rfl ?_
    refine s_op (a_conv (by simp only [Zu, Nat.reduceEqDiff, ↓reduceIte]; exact hstr)) rfl ?_
    refine s_op (a_mv e5) rfl ?_
    refine s_op (a_bin (by simp only [Zu, Nat.reduceEqDiff, ↓reduceIte, e5]; exact abin_aadd hlen)) rfl ?_
    refine s_as ?_
    refine s_end (fun s' hs' => ?_)
    replace e0 := kp 0 hs' e0
    replace e1 := kp 1 hs' e1
    replace e5 := congrFun hs' 5
    replace e6 := kp 6 hs' e6
    simp only [Zu, Nat.reduceEqDiff, ↓reduceIte, newPtr, AMem.next_alloc] at e5
    clear hs'
    refine o_norm ?_
    refine t_norm ?_
    repeat refine at_seq rfl ?_
    refine at_region hS rfl (by kernel_rfl) ?_
    refine s_op (a_mv e0) rfl ?_
    refine s_op (a_bin (by simp (disch := omega) only [Zu, Nat.reduceEqDiff, ↓reduceIte, Zd, reduceCtorEq, shr_8, shr_16, shr_4, shr8_4, shr8_7, ne_eq, not_false_eq_true] <;> rfl)) rfl ?_
    refine s_as ?_
    refine s_end (fun s' hs' => ?_)
    replace e0 := congrFun hs' 0
    replace e1 := kp 1 hs' e1
    replace e5 := kp 5 hs' e5
    replace e6 := kp 6 hs' e6
    simp only [Zu, Nat.reduceEqDiff, ↓reduceIte] at e0
    clear hs'
    refine o_norm ?_
    refine b_norm ?_
    refine t_norm ?_
    repeat refine at_seq rfl ?_
    refine at_region hS rfl (by kernel_rfl) ?_
    refine s_op (a_mv e6) rfl ?_
    refine s_op (a_bin (by simp (disch := ((try simp only [List.length_append, List.length_cons, List.length_nil]); omega)) only [Zu, Nat.reduceEqDiff, ↓reduceIte, Zd, reduceCtorEq, abin_add, abin_aadd, wrap_i64, wrap_u32, wrap_u8, wrap_u64, wrap_i32, wrap_u16, ne_eq, not_false_eq_true] <;> rfl)) rfl ?_
    refine s_as ?_
    refine s_end (fun s' hs' => ?_)
    replace e0 := kp 0 hs' e0
    replace e1 := kp 1 hs' e1
    replace e5 := kp 5 hs' e5
    replace e6 := congrFun hs' 6
    simp only [Zu, Nat.reduceEqDiff, ↓reduceIte] at e6
    clear hs'
    refine o_norm ?_
    refine t_norm ?_
    refine ⟨n.toNat - (i + 1), by omega, i + 1, u / 256, e0, e1, ?_, by rw [e6]; simp, by omega, rfl, ⟨by omega, by omega⟩, ?_, by simp; omega, ?_, rfl⟩
    · rw [e5, huv]; rfl
    · rw [huv, Int.ediv_ediv_of_nonneg (Int.pow_nonneg (by decide)), Int.pow_succ]
    · intro j hj
      rw [get_old (by omega)]
      exact hold j hj
  · have hin : i = n.toNat := by omega
    subst hin
    refine at_region hS rfl (by kernel_rfl) ?_
    refine s_op (a_mv e6) rfl ?_
    refine s_op (a_mv e1) rfl ?_
    refine s_op (a_bin (by simp (disch := omega) only [Zu, Nat.reduceEqDiff, ↓reduceIte, Zd, reduceCtorEq, abin_lss, ne_eq, not_false_eq_true, hlt] <;> rfl)) rfl ?_
    refine s_mv ?_
    refine s_lv ?_
    refine s_lv ?_
    refine s_op (a_pick (by simp only [Zu, Nat.reduceEqDiff, ↓reduceIte, Zd, reduceCtorEq, hlt] <;> rfl) (by simp only [Zu, Nat.reduceEqDiff, ↓reduceIte, Zd, reduceCtorEq, hlt] <;> rfl)) rfl ?_
    refine s_end (fun s' hs' => ?_)
    replace e0 := kp 0 hs' e0
    replace e1 := kp 1 hs' e1
    replace e5 := kp 5 hs' e5
    replace e6 := kp 6 hs' e6
    have e13 := congrFun hs' 13
    simp only [Zu, Nat.reduceEqDiff, ↓reduceIte] at e13
    clear hs'
    refine o_norm ?_
    refine t_norm ?_
    repeat refine at_seq rfl ?_
    refine at_cond rfl rfl e13 (fun hc => by cases hc) (fun _ => ?_)
    refine at_exit rfl ?_
    refine t_exit (t_exit (b_here (t_norm ?_)))
    repeat refine at_seq rfl ?_
    refine at_region hS rfl (by kernel_rfl) ?_
    refine s_op (a_mv e5) rfl ?_
    refine s_as ?_
    refine s_end (fun s' hs' => ?_)
    have e4 := congrFun hs' 4
    simp only [Zu, Nat.reduceEqDiff, ↓reduceIte] at e4
    clear hs'
    try clear e5
    refine o_norm ?_
    refine t_norm ?_
    refine at_ret rfl ?_
    refine bq_ret rfl (ars_cons (ar_tmp e4) ars_nil) ?_
    rw [← bigF_tail]
    exact ⟨_, _, hK, Canon.forget rfl hold⟩
def numGo : Int → List UInt8 → Int
  | v, [] => v
  | v, c :: cs => numGo (v * 256 + c.toNat) cs
def numF (l : List UInt8) : Int := numGo 0 (l.drop (l.length - 7))
theorem numGo_append (a b : List UInt8) : ∀ v, numGo v (a ++ b) = numGo (numGo v a) b := by
  induction a with
  | nil => intro v; rfl
  | cons c a ih => intro v; exact ih _
theorem numGo_bound : ∀ (l : List UInt8) (v : Int), 0 ≤ v → 0 ≤ numGo v l ∧ numGo v l < (v + 1) * 256 ^ l.length := by
  intro l
  induction l with
  | nil => intro v h; simp [numGo]; omega
  | cons c l ih =>
    intro v h
    have hc : (c.toNat : Int) < 256 := by have := c.toNat_lt; omega
    obtain ⟨h1, h2⟩ := ih (v * 256 + c.toNat) (by omega)
    refine ⟨h1, Int.lt_of_lt_of_le h2 ?_⟩
    rw [List.length_cons, Int.pow_succ, Int.mul_comm (256 ^ l.length) 256, ← Int.mul_assoc]
    exact Int.mul_le_mul_of_nonneg_right (by omega) (Int.pow_nonneg (by decide))
theorem take_snoc {α : Type} (l : List α) (i : Nat) (h : i < l.length) : l.take (i + 1) = l.take i ++ [l[i]] := by
  rw [List.take_add_one, List.getElem?_eq_getElem h]; rfl
def foldF (n : Int) : Int := if n = 0 then 0 else (n - 1) % 65535 + 1
theorem foldF_small {n : Int} (h0 : 0 ≤ n) (h1 : n ≤ 65535) : foldF n = n := by unfold foldF; split <;> omega
theorem foldF_step {n : Int} (h1 : 65535 < n) : foldF (n % 65536 + n / 65536) = foldF n := by unfold foldF; split <;> split <;> omega
theorem foldF_bound {n : Int} (h0 : 0 ≤ n) : 0 ≤ foldF n ∧ foldF n ≤ 65535 := by unfold foldF; split <;> omega
theorem foldF_add {a b : Int} (h0 : 0 ≤ a) (h1 : 0 ≤ b) : foldF (foldF a + b) = foldF (a + b) := by
  unfold foldF; split <;> split <;> (try split) <;> omega
def sp86 : ASpec := fun args M K => ∃ a b : Int, args = [.int .i64 a, .int .i64 b] ∧ (0 ≤ a ∧ a ≤ 65535 ∧ 0 ≤ b ∧ b ≤ 65535) ∧ K (.ret (.int .i64 (foldF (a + b)))) M
theorem f86_ok : Sound Try.prog 86 sp86 := by
  refine Sound.of_awp (c := bodyOf Try.f86) Try.func86 rfl rfl rfl ?_
  rintro args M K ⟨a, b, rfl, ⟨ha0, ha1, hb0, hb1⟩, hK⟩
  refine ⟨Nat.le_of_ble_eq_true rfl, ?_⟩
  have hS := noS_ok Try.prog
  have e0 : entry [.int .i64 a, .int .i64 b] 0 = .int .i64 a := rfl
  have e1 : entry [.int .i64 a, .int .i64 b] 1 = .int .i64 b := rfl
  repeat refine at_seq rfl ?_
  refine at_region hS rfl (by kernel_rfl) ?_
  refine s_op (a_as (by simp only [ev_const] <;> rfl)) rfl ?_
  refine s_end (fun s' hs' => ?_)
  replace e0 := kp 0 hs' e0
  replace e1 := kp 1 hs' e1
  clear hs'
  refine o_norm ?_
  refine t_norm ?_
  repeat refine at_seq rfl ?_
  refine at_region hS rfl (by kernel_rfl) ?_
  refine s_op (a_mv e0) rfl ?_
  refine s_op (a_bin (by simp (disch := omega) only [Zu, Nat.reduceEqDiff, ↓reduceIte, Zd, reduceCtorEq, abin_and, and_255, and_15, and_65535, and_8191, ne_eq, not_false_eq_true, Int.emod_eq_of_lt] <;> rfl)) rfl ?_
  refine s_op (a_mv e1) rfl ?_
  refine s_op (a_bin (by simp (disch := omega) only [Zu, Nat.reduceEqDiff, ↓reduceIte, Zd, reduceCtorEq, abin_and, and_255, and_15, and_65535, and_8191, ne_eq, not_false_eq_true, Int.emod_eq_of_lt] <;> rfl)) rfl ?_
  refine s_op (a_bin (by simp (disch := ((try simp only [List.length_append, List.length_cons, List.length_nil]); omega)) only [Zu, Nat.reduceEqDiff, ↓reduceIte, Zd, reduceCtorEq, abin_add, abin_aadd, wrap_i64, wrap_u32, wrap_u8, wrap_u64, wrap_i32, wrap_u16, ne_eq, not_false_eq_true, Int.emod_eq_of_lt] <;> rfl)) rfl ?_
  refine s_as ?_
  refine s_end (fun s' hs' => ?_)
  have e5 := congrFun hs' 5
  simp only [Zu, Nat.reduceEqDiff, ↓reduceIte] at e5
  clear hs'
  try clear e0 e1
  refine o_norm ?_
  refine t_norm ?_
  repeat refine at_seq rfl ?_
  refine at_block rfl ?_
  refine at_loop rfl (fun k s M' ds => ∃ (x : Int), s 5 = .int .i64 x ∧ 0 ≤ x ∧ x ≤ 131070 ∧ foldF x = foldF (a + b) ∧ k = x.toNat ∧ M' = M ∧ ds = []) (a + b).toNat ⟨a + b, e5, by omega, by omega, rfl, rfl, rfl, rfl⟩ ?_
  clear e5
  rintro k s M' ds ⟨x, e5, hx0, hx1, hx, hk, rfl, rfl⟩
  repeat refine at_seq rfl ?_
  refine at_region hS rfl (by kernel_rfl) ?_
  refine s_op (a_mv e5) rfl ?_
  refine s_op (a_bin (by simp (disch := omega) only [Zu, Nat.reduceEqDiff, ↓reduceIte, Zd, reduceCtorEq, abin_gtr, ne_eq, not_false_eq_true] <;> rfl)) rfl ?_
  refine s_end (fun s' hs' => ?_)
  replace e5 := kp 5 hs' e5
  have e12 := congrFun hs' 12
  simp only [Zu, Nat.reduceEqDiff, ↓reduceIte] at e12
  clear hs'
  refine o_norm ?_
  refine t_norm ?_
  repeat refine at_seq rfl ?_
  refine at_cond rfl rfl e12 (fun hc => ?_) (fun hc => ?_)
  · have hc := of_decide_eq_true hc
    refine at_skip rfl ?_
    refine t_norm ?_
    repeat refine at_seq rfl ?_
    refine at_block rfl ?_
    refine at_region hS rfl (by kernel_rfl) ?_
    refine s_op (a_mv e5) rfl ?_
    refine s_op (a_bin (by simp (disch := omega) only [Zu, Nat.reduceEqDiff, ↓reduceIte, Zd, reduceCtorEq, abin_and, and_255, and_15, and_65535, and_8191, ne_eq, not_false_eq_true] <;> rfl)) rfl ?_
    refine s_op (a_mv e5) rfl ?_
    refine s_op (a_bin (by simp (disch := omega) only [Zu, Nat.reduceEqDiff, ↓reduceIte, Zd, reduceCtorEq, shr_8, shr_16, shr_4, shr8_4, shr8_7, ne_eq, not_false_eq_true] <;> rfl)) rfl ?_
    refine s_op (a_bin (by simp (disch := ((try simp only [List.length_append, List.length_cons, List.length_nil]); omega)) only [Zu, Nat.reduceEqDiff, ↓reduceIte, Zd, reduceCtorEq, abin_add, abin_aadd, wrap_i64, wrap_u32, wrap_u8, wrap_u64, wrap_i32, wrap_u16, ne_eq, not_false_eq_true] <;> rfl)) rfl ?_
    refine s_as ?_
    refine s_end (fun s' hs' => ?_)
    replace e5 := congrFun hs' 5
    simp only [Zu, Nat.reduceEqDiff, ↓reduceIte] at e5
    clear hs'
    refine o_norm ?_
    refine b_norm ?_
    refine t_norm ?_
    exact ⟨(x % 65536 + x / 65536).toNat, by omega, _, e5, by omega, by omega, by rw [foldF_step hc, hx], rfl, rfl, rfl⟩
  · have hc := of_decide_eq_false hc
    rw [foldF_small hx0 (by omega)] at hx
    subst hx
    refine at_exit rfl ?_
    refine t_exit (t_exit (b_here (t_norm ?_)))
    repeat refine at_seq rfl ?_
    refine at_region hS rfl (by kernel_rfl) ?_
    refine s_op (a_mv e5) rfl ?_
    refine s_as ?_
    refine s_end (fun s' hs' => ?_)
    have e4 := congrFun hs' 4
    simp only [Zu, Nat.reduceEqDiff, ↓reduceIte] at e4
    clear hs'
    try clear e5
    refine o_norm ?_
    refine t_norm ?_
    refine at_ret rfl ?_
    refine bq_ret rfl (ars_cons (ar_tmp e4) ars_nil) ?_
    exact ⟨_, _, hK, Canon.refl (Nat.le_refl _)⟩
def sumB : Nat → List UInt8 → Int
  | _, [] => 0
  | k, c :: cs => (if k % 2 = 0 then c.toNat * 256 else c.toNat) + sumB (k + 1) cs
theorem sumB_append (a b : List UInt8) : ∀ k, sumB k (a ++ b) = sumB k a + sumB (k + a.length) b := by
  induction a with
  | nil => intro k; simp [sumB]
  | cons c a ih => intro k; simp only [List.cons_append, sumB, ih, List.length_cons]; rw [show k + 1 + a.length = k + (a.length + 1) from by omega]; omega
theorem sumB_nonneg : ∀ (l : List UInt8) (k : Nat), 0 ≤ sumB k l := by
  intro l
  induction l with
  | nil => intro k; simp [sumB]
  | cons c l ih => intro k; have := ih (k + 1); simp only [sumB]; split <;> omega
def ocF (l : List UInt8) : Int := 65535 - foldF (sumB 0 l)
theorem take_two {l : List UInt8} {i : Nat} (h : i + 1 < l.length) (he : i % 2 = 0) : sumB 0 (l.take (i + 2)) = sumB 0 (l.take i) + (l[i].toNat * 256 + l[i + 1].toNat) := by
  rw [take_snoc l (i + 1) h, take_snoc l i (by omega), List.append_assoc, sumB_append]
  have : (l.take i).length = i := by rw [List.length_take]; omega
  rw [this]
  simp only [Zm, sumB, Nat.zero_add]
  rw [if_pos he, if_neg (by omega)]
  omega
theorem take_one {l : List UInt8} {i : Nat} (h : i + 1 = l.length) (he : i % 2 = 0) : sumB 0 (l.take (i + 2)) = sumB 0 (l.take i) + l[i].toNat * 256 := by
  have h2 : l.take (i + 2) = l.take (i + 1) := by rw [List.take_of_length_le (by omega), List.take_of_length_le (by omega)]
  rw [h2, take_snoc l i (by omega), sumB_append]
  have : (l.take i).length = i := by rw [List.length_take]; omega
  rw [this]
  simp only [sumB, Nat.zero_add]
  rw [if_pos he]
  omega
def sp67 : ASpec := fun args M K => ∃ l : List UInt8, args = [asString l] ∧ l.length ≤ 1000000000 ∧ K (.ret (.int .i64 (ocF l))) M
noncomputable def S67 : FuncId → ASpec := tab [(86, sp86)]
theorem S67_86 : S67 86 = sp86 := rfl
theorem S67_ok : ∀ f, Sound Try.prog f (S67 f) := tab_sound _ (by simp [f86_ok])
theorem f67_ok : Sound Try.prog 67 sp67 := by
  refine Sound.of_awp (c := bodyOf Try.f67) Try.func67 rfl rfl rfl ?_
  rintro args M K ⟨l, rfl, hll, hK⟩
  refine ⟨Nat.le_of_ble_eq_true rfl, ?_⟩
  have hS := S67_ok
  have e0 : entry [asString l] 0 = asString l := rfl
  have hlen : ∀ (M : AMem) (l : List UInt8), alen Try.prog M 9 (asString l) = some (.int .i64 (l.length : Nat)) := fun M l => alen_as Try.underlying9
  repeat refine at_seq rfl ?_
  refine at_region hS rfl (by kernel_rfl) ?_
  refine s_op (a_as (by simp only [ev_const] <;> rfl)) rfl ?_
  refine s_end (fun s' hs' => ?_)
  replace e0 := kp 0 hs' e0
  clear hs'
  refine o_norm ?_
  refine t_norm ?_
  repeat refine at_seq rfl ?_
  refine at_region hS rfl (by kernel_rfl) ?_
  refine s_op (a_as (by simp only [ev_const] <;> rfl)) rfl ?_
  refine s_end (fun s' hs' => ?_)
  replace e0 := kp 0 hs' e0
  have e3 := congrFun hs' 3
  simp only [Zu, Nat.reduceEqDiff, ↓reduceIte] at e3
  clear hs'
  refine o_norm ?_
  refine t_norm ?_
  repeat refine at_seq rfl ?_
  refine at_region hS rfl (by kernel_rfl) ?_
  refine s_op (a_as (by simp only [ev_const] <;> rfl)) rfl ?_
  refine s_end (fun s' hs' => ?_)
  replace e0 := kp 0 hs' e0
  replace e3 := kp 3 hs' e3
  have e4 := congrFun hs' 4
  simp only [Zu, Nat.reduceEqDiff, ↓reduceIte] at e4
  clear hs'
  refine o_norm ?_
  refine t_norm ?_
  repeat refine at_seq rfl ?_
  refine at_block rfl ?_
  refine at_loop rfl (fun k s M' ds => ∃ (i : Nat), s 0 = asString l ∧ s 3 = .int .i64 (foldF (sumB 0 (l.take i))) ∧ s 4 = .int .i64 i ∧ i % 2 = 0 ∧ i ≤ l.length + 1 ∧ k = l.length + 1 - i ∧ M' = M ∧ ds = []) (l.length + 1) ⟨0, e0, e3, e4, rfl, by omega, by omega, rfl, rfl⟩ ?_
  clear e0 e3 e4
  rintro k s M' ds ⟨i, e0, e3, e4, hev, hi, hk, rfl, rfl⟩
  obtain ⟨hf0, hf1⟩ := foldF_bound (sumB_nonneg (l.take i) 0)
  repeat refine at_seq rfl ?_
  refine at_region hS rfl (by kernel_rfl) ?_
  refine s_op (a_mv e4) rfl ?_
  refine s_op (a_mv e0) rfl ?_
  refine s_op (a_len (by simp (disch := omega) only [Zu, Nat.reduceEqDiff, ↓reduceIte, alen_str, hlen] <;> rfl)) rfl ?_
  refine s_op (a_bin (by simp (disch := omega) only [Zu, Nat.reduceEqDiff, ↓reduceIte, Zd, reduceCtorEq, abin_lss, ne_eq, not_false_eq_true] <;> rfl)) rfl ?_
  refine s_end (fun s' hs' => ?_)
  replace e0 := kp 0 hs' e0
  replace e3 := kp 3 hs' e3
  replace e4 := kp 4 hs' e4
  have e9 := congrFun hs' 9
  simp only [Zu, Nat.reduceEqDiff, ↓reduceIte] at e9
  clear hs'
  refine o_norm ?_
  refine t_norm ?_
  repeat refine at_seq rfl ?_
  refine at_cond rfl rfl e9 (fun hc => ?_) (fun hc => ?_)
  · have hc := of_decide_eq_true hc
    have hil : i < l.length := by omega
    refine at_skip rfl ?_
    refine t_norm ?_
    repeat refine at_seq rfl ?_
    refine at_block rfl ?_
    have hx : aindex Try.prog 9 (asString l) (.int .i64 i) = some (.int .u8 l[i].toNat) := aindex_as Try.underlying9 (by omega) (by simp [hil])
    have hcb : (l[i].toNat : Int) < 256 := by have := l[i].toNat_lt; omega
    repeat refine at_seq rfl ?_
    refine at_region hS rfl (by kernel_rfl) ?_
    refine s_op (a_mv e0) rfl ?_
    refine s_op (a_mv e4) rfl ?_
    refine s_op (a_index (by simp (disch := omega) only [Zu, Nat.reduceEqDiff, ↓reduceIte, hx] <;> rfl)) rfl ?_
    refine s_op (a_convi (by simp only [Zu, Nat.reduceEqDiff, ↓reduceIte, hx] <;> rfl) rfl rfl (by simp (disch := omega) only [wrap_i64]; try rfl)) rfl ?_
    refine s_op (a_bin (by simp (disch := omega) only [Zu, Nat.reduceEqDiff, ↓reduceIte, Zd, reduceCtorEq, shl_8, wrap_i64, wrap_u32, wrap_u8, wrap_u64, wrap_i32, wrap_u16, ne_eq, not_false_eq_true, hx] <;> rfl)) rfl ?_
    refine s_as ?_
    refine s_end (fun s' hs' => ?_)
    replace e0 := kp 0 hs' e0
    replace e3 := kp 3 hs' e3
    replace e4 := kp 4 hs' e4
    have e5 := congrFun hs' 5
    simp only [Zu, Nat.reduceEqDiff, ↓reduceIte] at e5
    clear hs'
    refine o_norm ?_
    refine t_norm ?_
    repeat refine at_seq rfl ?_
    refine at_region hS rfl (by kernel_rfl) ?_
    refine s_op (a_mv e4) rfl ?_
    refine s_op (a_bin (by simp (disch := ((try simp only [List.length_append, List.length_cons, List.length_nil]); omega)) only [Zu, Nat.reduceEqDiff, ↓reduceIte, Zd, reduceCtorEq, abin_add, abin_aadd, wrap_i64, wrap_u32, wrap_u8, wrap_u64, wrap_i32, wrap_u16, ne_eq, not_false_eq_true] <;> rfl)) rfl ?_
    refine s_op (a_mv e0) rfl ?_
    refine s_op (a_len (by simp (disch := omega) only [Zu, Nat.reduceEqDiff, ↓reduceIte, alen_str, hlen] <;> rfl)) rfl ?_
    refine s_op (a_bin (by simp (disch := omega) only [Zu, Nat.reduceEqDiff, ↓reduceIte, Zd, reduceCtorEq, abin_lss, ne_eq, not_false_eq_true] <;> rfl)) rfl ?_
    refine s_end (fun s' hs' => ?_)
    replace e0 := kp 0 hs' e0
    replace e3 := kp 3 hs' e3
    replace e4 := kp 4 hs' e4
    replace e5 := kp 5 hs' e5
    have e21 := congrFun hs' 21
    simp only [Zu, Nat.reduceEqDiff, ↓reduceIte] at e21
    clear hs'
    refine o_norm ?_
    refine t_norm ?_
    refine at_cond rfl rfl e21 (fun hc => ?_) (fun hc => ?_)
    · have hc := of_decide_eq_true hc
      have hil1 : i + 1 < l.length := by omega
      have hx1 : aindex Try.prog 9 (asString l) (.int .i64 ((i : Int) + 1)) = some (.int .u8 l[i + 1].toNat) := aindex_as Try.underlying9 (by omega) (by rw [show ((i : Int) + 1).toNat = i + 1 from by omega]; simp [hil1])
      have hcb1 : (l[i + 1].toNat : Int) < 256 := by have := l[i + 1].toNat_lt; omega
      have hsum := take_two hil1 hev
      refine at_region hS rfl (by kernel_rfl) ?_
      refine s_op (a_mv e5) rfl ?_
      refine s_op (a_mv e0) rfl ?_
      refine s_op (a_mv e4) rfl ?_
      refine s_op (a_bin (by simp (disch := ((try simp only [List.length_append, List.length_cons, List.length_nil]); omega)) only [Zu, Nat.reduceEqDiff, ↓reduceIte, Zd, reduceCtorEq, abin_add, abin_aadd, wrap_i64, wrap_u32, wrap_u8, wrap_u64, wrap_i32, wrap_u16, ne_eq, not_false_eq_true, hx1] <;> rfl)) rfl ?_
      refine s_op (a_index (by simp (disch := omega) only [Zu, Nat.reduceEqDiff, ↓reduceIte, hx1] <;> rfl)) rfl ?_
      refine s_op (a_convi (by simp only [Zu, Nat.reduceEqDiff, ↓reduceIte, hx1] <;> rfl) rfl rfl (by simp (disch := omega) only [wrap_i64]; try rfl)) rfl ?_
      refine s_op (a_bin (by simp (disch := ((try simp only [List.length_append, List.length_cons, List.length_nil]); omega)) only [Zu, Nat.reduceEqDiff, ↓reduceIte, Zd, reduceCtorEq, abin_add, abin_aadd, wrap_i64, wrap_u32, wrap_u8, wrap_u64, wrap_i32, wrap_u16, ne_eq, not_false_eq_true, hx1] <;> rfl)) rfl ?_
      refine s_as ?_
      refine s_end (fun s' hs' => ?_)
      replace e0 := kp 0 hs' e0
      replace e3 := kp 3 hs' e3
      replace e4 := kp 4 hs' e4
      replace e5 := congrFun hs' 5
      simp only [Zu, Nat.reduceEqDiff, ↓reduceIte] at e5
      clear hs'
      refine o_norm ?_
      refine t_norm ?_
      repeat refine at_seq rfl ?_
      refine at_region hS rfl (by kernel_rfl) ?_
      refine s_op (a_mv e3) rfl ?_
      refine s_op (a_mv e5) rfl ?_
      refine s_call (by simp only [Zu, Nat.reduceEqDiff, ↓reduceIte] <;> rfl) (by simp only [Zu, Nat.reduceEqDiff, ↓reduceIte, Zm] <;> rfl) ?_
      rw [S67_86]; refine ⟨_, _, rfl, ⟨by omega, by omega, by omega, by omega⟩, ?_⟩
      show EA _ _ _ _ _ _
      refine s_as ?_
      refine s_end (fun s' hs' => ?_)
      replace e0 := kp 0 hs' e0
      replace e3 := congrFun hs' 3
      replace e4 := kp 4 hs' e4
      simp only [Zu, Nat.reduceEqDiff, ↓reduceIte] at e3
      clear hs'
      try clear e5
      refine o_norm ?_
      refine b_norm ?_
      refine t_norm ?_
      repeat refine at_seq rfl ?_
      refine at_region hS rfl (by kernel_rfl) ?_
      refine s_op (a_mv e4) rfl ?_
      refine s_op (a_bin (by simp (disch := ((try simp only [List.length_append, List.length_cons, List.length_nil]); omega)) only [Zu, Nat.reduceEqDiff, ↓reduceIte, Zd, reduceCtorEq, abin_add, abin_aadd, wrap_i64, wrap_u32, wrap_u8, wrap_u64, wrap_i32, wrap_u16, ne_eq, not_false_eq_true] <;> rfl)) rfl ?_
      refine s_as ?_
      refine s_end (fun s' hs' => ?_)
      replace e0 := kp 0 hs' e0
      replace e3 := kp 3 hs' e3
      replace e4 := congrFun hs' 4
      simp only [Zu, Nat.reduceEqDiff, ↓reduceIte] at e4
      clear hs'
      refine o_norm ?_
      refine t_norm ?_
      exact ⟨l.length + 1 - (i + 2), by omega, i + 2, e0, by rw [e3, foldF_add (sumB_nonneg _ _) (by omega), hsum], by rw [e4]; simp, by omega, by omega, rfl, rfl, rfl⟩
    · have hc := of_decide_eq_false hc
      have hsum := take_one (l := l) (i := i) (by omega) hev
      refine at_skip rfl ?_
      refine t_norm ?_
      repeat refine at_seq rfl ?_
      refine at_region hS rfl (by kernel_rfl) ?_
      refine s_op (a_mv e3) rfl ?_
      refine s_op (a_mv e5) rfl ?_
      refine s_call (by simp only [Zu, Nat.reduceEqDiff, ↓reduceIte] <;> rfl) (by simp only [Zu, Nat.reduceEqDiff, ↓reduceIte, Zm] <;> rfl) ?_
      rw [S67_86]; refine ⟨_, _, rfl, ⟨by omega, by omega, by omega, by omega⟩, ?_⟩
      show EA _ _ _ _ _ _
      refine s_as ?_
      refine s_end (fun s' hs' => ?_)
      replace e0 := kp 0 hs' e0
      replace e3 := congrFun hs' 3
      replace e4 := kp 4 hs' e4
      simp only [Zu, Nat.reduceEqDiff, ↓reduceIte] at e3
      clear hs'
      try clear e5
      refine o_norm ?_
      refine b_norm ?_
      refine t_norm ?_
      repeat refine at_seq rfl ?_
      refine at_region hS rfl (by kernel_rfl) ?_
      refine s_op (a_mv e4) rfl ?_
      refine s_op (a_bin (by simp (disch := ((try simp only [List.length_append, List.length_cons, List.length_nil]); omega)) only [Zu, Nat.reduceEqDiff, ↓reduceIte, Zd, reduceCtorEq, abin_add, abin_aadd, wrap_i64, wrap_u32, wrap_u8, wrap_u64, wrap_i32, wrap_u16, ne_eq, not_false_eq_true] <;> rfl)) rfl ?_
      refine s_as ?_
      refine s_end (fun s' hs' => ?_)
      replace e0 := kp 0 hs' e0
      replace e3 := kp 3 hs' e3
      replace e4 := congrFun hs' 4
      simp only [Zu, Nat.reduceEqDiff, ↓reduceIte] at e4
      clear hs'
      refine o_norm ?_
      refine t_norm ?_
      exact ⟨l.length + 1 - (i + 2), by omega, i + 2, e0, by rw [e3, foldF_add (sumB_nonneg _ _) (by omega), hsum], by rw [e4]; simp, by omega, by omega, rfl, rfl, rfl⟩
  · have hc := of_decide_eq_false hc
    rw [List.take_of_length_le (by omega)] at e3 hf0 hf1
    refine at_exit rfl ?_
    refine t_exit (t_exit (b_here (t_norm ?_)))
    repeat refine at_seq rfl ?_
    refine at_region hS rfl (by kernel_rfl) ?_
    refine s_op (a_mv e3) rfl ?_
    refine s_op (a_bin (by simp (disch := omega) only [Zu, Nat.reduceEqDiff, ↓reduceIte, Zd, reduceCtorEq, abin_sub, wrap_i64, wrap_u32, wrap_u8, wrap_u64, wrap_i32, wrap_u16, ne_eq, not_false_eq_true] <;> rfl)) rfl ?_
    refine s_as ?_
    refine s_end (fun s' hs' => ?_)
    have e2 := congrFun hs' 2
    simp only [Zu, Nat.reduceEqDiff, ↓reduceIte] at e2
    clear hs'
    try clear e3
    refine o_norm ?_
    refine t_norm ?_
    refine at_ret rfl ?_
    refine bq_ret rfl (ars_cons (ar_tmp e2) ars_nil) ?_
    exact ⟨_, _, hK, Canon.refl (Nat.le_refl _)⟩
end Go.Proofs.Ytdkdkpiemigfkaa
set_option linter.unusedVariables false
set_option linter.unusedSimpArgs false
set_option maxRecDepth 4000
namespace Go.Proofs.Ytdkdkpiemigfkaa
open Go Go.Proofs
theorem byteCells_length (l : List UInt8) : (byteCells l).length = l.length := by simp [byteCells]
theorem byteCells_get {l : List UInt8} {i : Nat} (h : i < l.length) : (byteCells l)[i]? = some (.int .u8 l[i].toNat) := by simp [byteCells, h]
theorem byteCells_append (a b : List UInt8) : byteCells (a ++ b) = byteCells a ++ byteCells b := by simp [byteCells]
theorem byteCells_one (l : List UInt8) : (byteCells l).all (·.oneCell') = true := by
  rw [List.all_eq_true]
  intro v hv
  simp only [byteCells, List.mem_map] at hv
  obtain ⟨b, _, rfl⟩ := hv
  rfl
theorem byteCells_flat (k : Nat) (l : List UInt8) : (byteCells l).all (flatN k) = true := by
  rw [List.all_eq_true]
  intro v hv
  simp only [byteCells, List.mem_map] at hv
  obtain ⟨b, _, rfl⟩ := hv
  cases k <;> rfl
theorem flat_agg {cs : List Value} (h : cs.all (flatN 2) = true) : flat (.agg cs.toArray) = true := by
  show (cs.toArray.toList).all (flatN 2) = true
  simpa using h
def sp69 : ASpec := fun args M K => ∃ l : List UInt8, args = [.agg (byteCells l).toArray] ∧ l.length = 6 ∧ K (.ret (asString l)) M
theorem f69_ok : Sound Try.prog 69 sp69 := by
  refine Sound.of_awp (c := bodyOf Try.f69) Try.func69 rfl rfl rfl ?_
  rintro args M K ⟨l, rfl, hl, hK⟩
  refine ⟨Nat.le_of_ble_eq_true rfl, ?_⟩
  have hS := noS_ok Try.prog
  have e0 : entry [.agg (byteCells l).toArray] 0 = .agg (byteCells l).toArray := rfl
  repeat refine at_seq rfl ?_
  refine at_region hS rfl (by kernel_rfl) ?_
  refine s_op (a_box (by simp only [Zu, Nat.reduceEqDiff, ↓reduceIte, Value.cells, e0] <;> rfl)) rfl ?_
  refine s_op (a_as (by simp only [ev_const] <;> rfl)) rfl ?_
  refine s_end (fun s' hs' => ?_)
  have e1 := congrFun hs' 1
  simp only [Zu, Nat.reduceEqDiff, ↓reduceIte, newPtr, AMem.next_alloc] at e1
  clear hs'
  try clear e0
  refine o_norm ?_
  refine t_norm ?_
  repeat refine at_seq rfl ?_
  refine at_region hS rfl (by kernel_rfl) ?_
  refine s_op (a_as (by simp only [ev_const] <;> rfl)) rfl ?_
  refine s_end (fun s' hs' => ?_)
  replace e1 := kp 1 hs' e1
  have e3 := congrFun hs' 3
  simp only [Zu, Nat.reduceEqDiff, ↓reduceIte] at e3
  clear hs'
  refine o_norm ?_
  refine t_norm ?_
  repeat refine at_seq rfl ?_
  refine at_region hS rfl (by kernel_rfl) ?_
  refine s_op (a_as (by simp only [ev_const] <;> rfl)) rfl ?_
  refine s_end (fun s' hs' => ?_)
  replace e1 := kp 1 hs' e1
  replace e3 := kp 3 hs' e3
  have e4 := congrFun hs' 4
  simp only [Zu, Nat.reduceEqDiff, ↓reduceIte] at e4
  clear hs'
  refine o_norm ?_
  refine t_norm ?_
  repeat refine at_seq rfl ?_
  refine at_block rfl ?_
  refine at_loop rfl (fun k s M' ds => ∃ (i : Nat) (bv : Value), s 1 = .pointer (some ⟨M.next, 0, none⟩) ∧ s 3 = bv ∧ s 4 = .int .i64 i ∧ i ≤ 6 ∧ k = 6 - i ∧ Own M' (M.next + 1) 1 bv i (byteCells (l.take i)) ∧ M.next + 1 ≤ M'.next ∧ (∀ j, j < M.next + 1 → M'.get j = (M.alloc (.cells (byteCells l) true)).get j) ∧ ds = []) 6
    ⟨0, _, e1, e3, e4, by omega, by omega, Own.nil _ _ _, by simp, fun _ _ => rfl, rfl⟩ ?_
  clear e1 e3 e4
  rintro k s M' ds ⟨i, bv, e1, e3, e4, hi, hk, hown, hnx, hold, rfl⟩
  have hget : M'.get M.next = .cells (byteCells l) true := by rw [hold _ (by omega), get_new]
  repeat refine at_seq rfl ?_
  refine at_region hS rfl (by kernel_rfl) ?_
  refine s_op (a_mv e4) rfl ?_
  refine s_op (a_bin (by simp (disch := omega) only [Zu, Nat.reduceEqDiff, ↓reduceIte, Zd, reduceCtorEq, abin_lss, ne_eq, not_false_eq_true] <;> rfl)) rfl ?_
  refine s_end (fun s' hs' => ?_)
  replace e1 := kp 1 hs' e1
  replace e3 := kp 3 hs' e3
  replace e4 := kp 4 hs' e4
  have e6 := congrFun hs' 6
  simp only [Zu, Nat.reduceEqDiff, ↓reduceIte] at e6
  clear hs'
  refine o_norm ?_
  refine t_norm ?_
  repeat refine at_seq rfl ?_
  refine at_cond rfl rfl e6 (fun hc => ?_) (fun hc => ?_)
  · have hc := of_decide_eq_true hc
    have hil : i < l.length := by omega
    refine at_skip rfl ?_
    refine t_norm ?_
    repeat refine at_seq rfl ?_
    refine at_block rfl ?_
    have hia : aindexAddr Try.prog 59 (.pointer (some ⟨M.next, 0, none⟩)) (.int .i64 i) = some (.pointer (some ⟨M.next, i, none⟩)) := by
      rw [aindexAddr_arr Try.underlying59 (i := _) (by rfl) (by omega) (by omega)]
      show some (Value.pointer (some ⟨M.next, 0 + (i : Int).toNat * 1, none⟩)) = _
      simp
    have hld : aload Try.prog 5 (byteCells l) i = some (.int .u8 l[i].toNat) := by rw [ld5, byteCells_get hil]
    refine at_region hS rfl (by kernel_rfl) ?_
    refine s_op (a_mv e3) rfl ?_
    refine s_op (a_mv e4) rfl ?_
    refine s_op (a_ia (by simp (disch := omega) only [Zu, Nat.reduceEqDiff, ↓reduceIte, hia, e1] <;> rfl)) rfl ?_
    refine s_op (a_load (by simp only [Zu, Nat.reduceEqDiff, ↓reduceIte, hget, hld] <;> rfl) (by simp (disch := first | (refine Zx ?_; (try simp only [Zn]) <;> omega)) only [Zg, hget, hld] <;> rfl) (by simp only [ld5, Zl, hget, hld] <;> rfl)) rfl ?_
    refine s_op (a_bslice (by simp only [Zu, Nat.reduceEqDiff, ↓reduceIte, Zm, Array.toList]; exact abuildSlice_all [_] rfl rfl rfl rfl rfl (by decide) (by decide) rfl (by simp only [List.mem_cons, List.not_mem_nil, or_false, forall_eq_or_imp, forall_eq]; repeat' (first | rfl | apply And.intro)))) rfl ?_
    have hown1 : Own (M'.alloc (.cells [.int .u8 l[i].toNat] true)) (M.next + 1) 1 bv i _ := hown.keep (by simp) (fun j h1 h2 => get_old (by omega))
    obtain ⟨bv', M2, hap, hown2, hn2, hf2, hf3⟩ := aappend_ok (P := Try.prog) (t := 55) (tx := 55) (y := .slice (some ⟨M'.next, 0, none⟩) 1 1) (m := 1) (cs2 := [.int .u8 l[i].toNat]) hown1 (by simp; omega) Try.underlying55 Try.underlying55 rfl (i := _) (by rfl) rfl (z := _) rfl rfl (by simp [asrc, get_new]) (by decide) (by show (i + 1) * 1 ≤ _; omega) rfl rfl
    refine s_op (a_append (by simp only [Zu, Nat.reduceEqDiff, ↓reduceIte]; exact hap)) rfl ?_
    refine s_as ?_
    refine s_end (fun s' hs' => ?_)
    replace e1 := kp 1 hs' e1
    replace e3 := congrFun hs' 3
    replace e4 := kp 4 hs' e4
    simp only [Zu, Nat.reduceEqDiff, ↓reduceIte, newPtr, AMem.next_alloc] at e3
    clear hs'
    refine o_norm ?_
    refine b_norm ?_
    refine t_norm ?_
    repeat refine at_seq rfl ?_
    refine at_region hS rfl (by kernel_rfl) ?_
    refine s_op (a_mv e4) rfl ?_
    refine s_op (a_bin (by simp (disch := ((try simp only [List.length_append, List.length_cons, List.length_nil]); omega)) only [Zu, Nat.reduceEqDiff, ↓reduceIte, Zd, reduceCtorEq, abin_add, abin_aadd, wrap_i64, wrap_u32, wrap_u8, wrap_u64, wrap_i32, wrap_u16, ne_eq, not_false_eq_true] <;> rfl)) rfl ?_
    refine s_as ?_
    refine s_end (fun s' hs' => ?_)
    replace e1 := kp 1 hs' e1
    replace e3 := kp 3 hs' e3
    replace e4 := congrFun hs' 4
    simp only [Zu, Nat.reduceEqDiff, ↓reduceIte] at e4
    clear hs'
    refine o_norm ?_
    refine t_norm ?_
    refine ⟨6 - (i + 1), by omega, i + 1, bv', e1, e3, by rw [e4]; simp, by omega, rfl, ?_, ?_, ?_, rfl⟩
    · rw [take_snoc l i hil, byteCells_append]; exact hown2
    · simp at hn2; omega
    · intro j hj
      rw [hf2 j hj, get_old (by omega)]
      exact hold j hj
  · have hc := of_decide_eq_false hc
    have hi6 : i = 6 := by omega
    subst hi6
    rw [List.take_of_length_le (by omega)] at hown
    refine at_exit rfl ?_
    refine t_exit (t_exit (b_here (t_norm ?_)))
    repeat refine at_seq rfl ?_
    refine at_region hS rfl (by kernel_rfl) ?_
    refine s_op (a_mv e3) rfl ?_
    refine s_op (a_conv (by simp (disch := omega) only [Zu, Nat.reduceEqDiff, ↓reduceIte, Row.str (P := Try.prog) hown.row Try.underlying55 Try.underlying5 Try.underlying9] <;> rfl)) rfl ?_
    refine s_as ?_
    refine s_end (fun s' hs' => ?_)
    have e2 := congrFun hs' 2
    simp only [Zu, Nat.reduceEqDiff, ↓reduceIte] at e2
    clear hs'
    try clear e3
    refine o_norm ?_
    refine t_norm ?_
    refine at_ret rfl ?_
    refine bq_ret rfl (ars_cons (ar_tmp e2) ars_nil) ?_
    exact ⟨_, _, hK, Canon.forget rfl (fun j hj => by rw [hold j (by omega), get_old (by omega)])⟩
def ethCells (d s : List UInt8) (t : Int) : List Value := byteCells d ++ byteCells s ++ [.int .i64 t]
theorem ethCells_length {d s : List UInt8} {t : Int} (hd : d.length = 6) (hs : s.length = 6) : (ethCells d s t).length = 13 := by simp [ethCells, byteCells_length, hd, hs]
def ethPutF (d s : List UInt8) (t : Int) (body : List UInt8) : List UInt8 := d ++ s ++ bigF t 2 ++ body
def sp55 : ASpec := fun args M K => ∃ (d s : List UInt8) (t : Int) (body : List UInt8), args = [.agg (ethCells d s t).toArray, asString body] ∧ (d.length = 6 ∧ s.length = 6 ∧ inI64 t ∧ body.length ≤ 1000000000) ∧ K (.ret (asString (ethPutF d s t body))) M
noncomputable def S55 : FuncId → ASpec := tab [(69, sp69), (52, sp52)]
theorem S55_69 : S55 69 = sp69 := rfl
theorem S55_52 : S55 52 = sp52 := rfl
theorem S55_ok : ∀ f, Sound Try.prog f (S55 f) := tab_sound _ (by simp [f69_ok, f52_ok])
theorem bigF_length (v : Int) (n : Nat) : (bigF v n).length = n := by
  induction n generalizing v with
  | zero => rfl
  | succ n ih => simp [bigF, ih]
theorem f55_ok : Sound Try.prog 55 sp55 := by
  refine Sound.of_awp (c := bodyOf Try.f55) Try.func55 rfl rfl rfl ?_
  rintro args M K ⟨d, s, t, body, rfl, ⟨hd, hs, ht, hb⟩, hK⟩
  refine ⟨Nat.le_of_ble_eq_true rfl, ?_⟩
  have hS := S55_ok
  have e0 : entry [.agg (ethCells d s t).toArray, asString body] 0 = .agg (ethCells d s t).toArray := rfl
  have e1 : entry [.agg (ethCells d s t).toArray, asString body] 1 = asString body := rfl
  repeat refine at_seq rfl ?_
  refine at_region hS rfl (by kernel_rfl) ?_
  refine s_op (a_box (by simp only [Zu, Nat.reduceEqDiff, ↓reduceIte, Value.cells, e0] <;> rfl)) rfl ?_
  refine s_op (a_as (by simp only [ev_const] <;> rfl)) rfl ?_
  refine s_end (fun s' hs' => ?_)
  replace e1 := kp 1 hs' e1
  have e2 := congrFun hs' 2
  simp only [Zu, Nat.reduceEqDiff, ↓reduceIte, newPtr, AMem.next_alloc] at e2
  clear hs'
  try clear e0
  refine o_norm ?_
  refine t_norm ?_
  repeat refine at_seq rfl ?_
  have hlen := ethCells_length (t := t) hd hs
  have hf0 : afieldAddr Try.prog 61 (.pointer (some ⟨M.next, 0, none⟩)) 0 = some (.pointer (some ⟨M.next, 0, none⟩)) := by kernel_rfl
  have hf1 : afieldAddr Try.prog 61 (.pointer (some ⟨M.next, 0, none⟩)) 1 = some (.pointer (some ⟨M.next, 6, none⟩)) := by kernel_rfl
  have hf2 : afieldAddr Try.prog 61 (.pointer (some ⟨M.next, 0, none⟩)) 2 = some (.pointer (some ⟨M.next, 12, none⟩)) := by kernel_rfl
  have hl0 : aload Try.prog 59 (ethCells d s t) 0 = some (.agg (byteCells d).toArray) := by
    rw [aload_agg Try.underlying59 (i := _) (by rfl) rfl (n := 6) rfl (by omega)]
    have : (byteCells d).length = 6 := by rw [byteCells_length, hd]
    rw [ethCells, List.drop_zero, List.append_assoc, List.take_append_of_le_length (by omega), List.take_of_length_le (by omega)]
  have hl1 : aload Try.prog 59 (ethCells d s t) 6 = some (.agg (byteCells s).toArray) := by
    rw [aload_agg Try.underlying59 (i := _) (by rfl) rfl (n := 6) rfl (by omega)]
    have h1 : (byteCells d).length = 6 := by rw [byteCells_length, hd]
    have h2 : (byteCells s).length = 6 := by rw [byteCells_length, hs]
    rw [ethCells, List.append_assoc, List.drop_append_of_le_length (by omega), List.drop_of_length_le (by omega), List.nil_append, List.take_append_of_le_length (by omega), List.take_of_length_le (by omega)]
  have hl2 : aload Try.prog 3 (ethCells d s t) 12 = some (.int .i64 t) := by
    rw [ld3, ethCells]
    have h1 : (byteCells d ++ byteCells s).length = 12 := by simp [byteCells_length, hd, hs]
    rw [List.getElem?_append_right (by omega), h1]; rfl
  have q1 : (d ++ s).length = 12 := by simp [hd, hs]
  have q2 : (bigF t 2).length = 2 := bigF_length _ _
  have q3 : (d ++ s ++ bigF t 2).length = 14 := by simp [hd, hs, q2]
  refine at_draw ⟨[[], [0], [0, 1], [], [3], [0, 1, 2, 3, 4], [0, 1, 2, 3, 4, 5], [], [7], [0, 1, 2, 3, 4, 5, 7, 8], [0, 1, 2, 3, 4, 5, 6, 7, 8, 9], [], [0, 1, 2, 3, 4, 5, 6, 7, 8, 9, 10, 11], [0, 1, 2, 3, 4, 5, 6, 7, 8, 9, 10, 11, 12]], [0, 1, 3, 4, 7, 8, 11], [(2, []), (5, [6]), (9, [10, 12, 13])]⟩ hS rfl rfl (by kernel_rfl) (by kernel_rfl) ?_
  refine d_start ?_
  refine l_op rfl rfl (a_fa (by simp only [Zu, Nat.reduceEqDiff, ↓reduceIte, fa61_0, Nat.zero_add, hf0, hf1, hf2, newPtr, e2] <;> rfl)) rfl ?_ rfl
  refine l_op rfl rfl (a_load (by simp only [Zu, Nat.reduceEqDiff, ↓reduceIte, hf0, hf1, hf2, hl0, hl1, hl2, newPtr] <;> rfl) (by simp (disch := first | (refine Zx ?_; (try simp only [Zn]) <;> omega)) only [Zg, hf0, hf1, hf2, hl0, hl1, hl2, newPtr] <;> rfl) (by simp only [hf0, hf1, hf2, hl0, hl1, hl2, newPtr] <;> rfl)) rfl ?_ rfl
  refine l_op rfl rfl (a_fa (by simp only [Zu, Nat.reduceEqDiff, ↓reduceIte, fa61_1, Nat.zero_add, hf0, hf1, hf2, newPtr, e2] <;> rfl)) rfl ?_ rfl
  refine l_op rfl rfl (a_load (by simp only [Zu, Nat.reduceEqDiff, ↓reduceIte, hf0, hf1, hf2, hl0, hl1, hl2, newPtr] <;> rfl) (by simp (disch := first | (refine Zx ?_; (try simp only [Zn]) <;> omega)) only [Zg, hf0, hf1, hf2, hl0, hl1, hl2, newPtr] <;> rfl) (by simp only [hf0, hf1, hf2, hl0, hl1, hl2, newPtr] <;> rfl)) rfl ?_ rfl
  refine l_op rfl rfl (a_fa (by simp only [Zu, Nat.reduceEqDiff, ↓reduceIte, fa61_2, Nat.zero_add, hf0, hf1, hf2, newPtr, e2] <;> rfl)) rfl ?_ rfl
  refine l_op rfl rfl (a_load (by simp only [Zu, Nat.reduceEqDiff, ↓reduceIte, hf0, hf1, hf2, hl0, hl1, hl2, newPtr] <;> rfl) (by simp (disch := first | (refine Zx ?_; (try simp only [Zn]) <;> omega)) only [Zg, hf0, hf1, hf2, hl0, hl1, hl2, newPtr] <;> rfl) (by simp only [ld3, Zl, hf0, hf1, hf2, hl0, hl1, hl2, newPtr] <;> rfl)) rfl ?_ rfl
  refine l_op rfl rfl (a_mv e1) rfl ?_ rfl
  refine l_nil ?_
  refine h_op ?_ rfl rfl rfl ?_
  · refine again_r rfl ?_
    refine again_l rfl rfl (a_load (by simp only [Zu, Nat.reduceEqDiff, ↓reduceIte, hf0, hf1, hf2, hl0, hl1, hl2, newPtr] <;> rfl) (by simp (disch := first | (refine Zx ?_; (try simp only [Zn]) <;> omega)) only [Zg, hf0, hf1, hf2, hl0, hl1, hl2, newPtr] <;> rfl) (by simp only [ld3, Zl, hf0, hf1, hf2, hl0, hl1, hl2, newPtr] <;> rfl)) ?_
    refine again_r rfl ?_
    refine again_l rfl rfl (a_load (by simp only [Zu, Nat.reduceEqDiff, ↓reduceIte, hf0, hf1, hf2, hl0, hl1, hl2, newPtr] <;> rfl) (by simp (disch := first | (refine Zx ?_; (try simp only [Zn]) <;> omega)) only [Zg, hf0, hf1, hf2, hl0, hl1, hl2, newPtr] <;> rfl) (by simp only [hf0, hf1, hf2, hl0, hl1, hl2, newPtr] <;> rfl)) ?_
    refine again_r rfl ?_
    refine again_l rfl rfl (a_load (by simp only [Zu, Nat.reduceEqDiff, ↓reduceIte, hf0, hf1, hf2, hl0, hl1, hl2, newPtr] <;> rfl) (by simp (disch := first | (refine Zx ?_; (try simp only [Zn]) <;> omega)) only [Zg, hf0, hf1, hf2, hl0, hl1, hl2, newPtr] <;> rfl) (by simp only [hf0, hf1, hf2, hl0, hl1, hl2, newPtr] <;> rfl)) ?_
    refine again_r rfl ?_
    exact again_nil
  refine s_call (by simp only [Zu, Nat.reduceEqDiff, ↓reduceIte, hf0, hf1, hf2, newPtr] <;> rfl) (by simp only [Zu, Nat.reduceEqDiff, ↓reduceIte, Zm, hf0, hf1, hf2, newPtr] <;> rfl) ?_
  rw [S55_69]; refine ⟨d, rfl, hd, ?_⟩
  show EA _ _ _ _ _ _
  refine s_end (fun s' hs' => ?_); subst hs'
  refine l_nil ?_
  refine h_op ?_ rfl rfl rfl ?_
  · refine again_r rfl ?_
    refine again_l rfl rfl (a_load (by simp only [Zu, Nat.reduceEqDiff, ↓reduceIte, hf0, hf1, hf2, hl0, hl1, hl2, newPtr] <;> rfl) (by simp (disch := first | (refine Zx ?_; (try simp only [Zn]) <;> omega)) only [Zg, hf0, hf1, hf2, hl0, hl1, hl2, newPtr] <;> rfl) (by simp only [ld3, Zl, hf0, hf1, hf2, hl0, hl1, hl2, newPtr] <;> rfl)) ?_
    refine again_r rfl ?_
    refine again_l rfl rfl (a_load (by simp only [Zu, Nat.reduceEqDiff, ↓reduceIte, hf0, hf1, hf2, hl0, hl1, hl2, newPtr] <;> rfl) (by simp (disch := first | (refine Zx ?_; (try simp only [Zn]) <;> omega)) only [Zg, hf0, hf1, hf2, hl0, hl1, hl2, newPtr] <;> rfl) (by simp only [hf0, hf1, hf2, hl0, hl1, hl2, newPtr] <;> rfl)) ?_
    refine again_r rfl ?_
    exact again_nil
  refine s_call (by simp only [Zu, Nat.reduceEqDiff, ↓reduceIte, hf0, hf1, hf2, newPtr] <;> rfl) (by simp only [Zu, Nat.reduceEqDiff, ↓reduceIte, Zm, hf0, hf1, hf2, newPtr] <;> rfl) ?_
  rw [S55_69]; refine ⟨s, rfl, hs, ?_⟩
  show EA _ _ _ _ _ _
  refine s_end (fun s' hs' => ?_); subst hs'
  refine l_op rfl rfl (a_bin (by simp (disch := ((try simp only [List.length_append, List.length_cons, List.length_nil]); omega)) only [Zu, Nat.reduceEqDiff, ↓reduceIte, Zd, reduceCtorEq, abin_add, abin_aadd, wrap_i64, wrap_u32, wrap_u8, wrap_u64, wrap_i32, wrap_u16, ne_eq, not_false_eq_true, hf0, hf1, hf2] <;> rfl)) rfl ?_ rfl
  refine l_nil ?_
  refine h_op ?_ rfl rfl rfl ?_
  · refine again_r rfl ?_
    refine again_r rfl ?_
    refine again_l rfl rfl (a_load (by simp only [Zu, Nat.reduceEqDiff, ↓reduceIte, hf0, hf1, hf2, hl0, hl1, hl2, newPtr] <;> rfl) (by simp (disch := first | (refine Zx ?_; (try simp only [Zn]) <;> omega)) only [Zg, hf0, hf1, hf2, hl0, hl1, hl2, newPtr] <;> rfl) (by simp only [ld3, Zl, hf0, hf1, hf2, hl0, hl1, hl2, newPtr] <;> rfl)) ?_
    refine again_r rfl ?_
    exact again_nil
  refine s_call (by simp only [Zu, Nat.reduceEqDiff, ↓reduceIte, hf0, hf1, hf2, newPtr] <;> rfl) (by simp only [Zu, Nat.reduceEqDiff, ↓reduceIte, Zm, hf0, hf1, hf2, newPtr] <;> rfl) ?_
  rw [S55_52]; refine ⟨_, 2, rfl, ⟨ht, by omega, by omega⟩, ?_⟩; rw [show (2 : Int).toNat = 2 from rfl]; generalize hb2 : bigF t 2 = b2 at q2 q3 ⊢
  show EA _ _ _ _ _ _
  refine s_end (fun s' hs' => ?_); subst hs'
  refine l_op rfl rfl (a_bin (by simp (disch := ((try simp only [List.length_append, List.length_cons, List.length_nil]); omega)) only [Zu, Nat.reduceEqDiff, ↓reduceIte, Zd, reduceCtorEq, abin_add, abin_aadd, wrap_i64, wrap_u32, wrap_u8, wrap_u64, wrap_i32, wrap_u16, ne_eq, not_false_eq_true, hf0, hf1, hf2] <;> rfl)) rfl ?_ rfl
  refine l_op rfl rfl (a_bin (by simp (disch := ((try simp only [List.length_append, List.length_cons, List.length_nil]); omega)) only [Zu, Nat.reduceEqDiff, ↓reduceIte, Zd, reduceCtorEq, abin_add, abin_aadd, wrap_i64, wrap_u32, wrap_u8, wrap_u64, wrap_i32, wrap_u16, ne_eq, not_false_eq_true, hf0, hf1, hf2] <;> rfl)) rfl ?_ rfl
  refine l_op rfl rfl (a_as (by simp only [Zu, Nat.reduceEqDiff, ↓reduceIte] <;> rfl)) rfl ?_ rfl
  refine l_nil ?_
  refine h_end ?_ (fun s' hs' => ?_)
  · refine again_r rfl ?_
    refine again_r rfl ?_
    refine again_r rfl ?_
    refine again_r rfl ?_
    refine again_r rfl ?_
    exact again_nil
  have e4 := congrFun hs' 4
  simp only [Zu, Nat.reduceEqDiff, ↓reduceIte, newPtr, AMem.next_alloc] at e4
  clear hs'
  try clear e1 e2
  refine o_norm ?_
  refine t_norm ?_
  refine at_ret rfl ?_
  refine bq_ret rfl (ars_cons (ar_tmp e4) ars_nil) ?_
  subst hb2
  exact ⟨_, _, hK, Canon.forget rfl (fun j hj => get_old (by omega))⟩
def eth0 : List Value := ethCells (List.replicate 6 0) (List.replicate 6 0) 0
def ethGetF (l : List UInt8) : List Value × List UInt8 × Int :=
  if l.length < 14 then (eth0, [], 2) else if 3000 < l.length then (eth0, [], 5) else
    (ethCells (l.take 6) ((l.drop 6).take 6) (numF ((l.drop 12).take 2)), l.drop 14, 0)
def retEth (r : List Value × List UInt8 × Int) : Value := .tuple #[.agg r.1.toArray, asString r.2.1, .int .i64 r.2.2]
theorem ld61 {cs : List Value} (h : cs.length = 13) : aload Try.prog 61 cs 0 = some (.agg cs.toArray) := aload_whole Try.underlying61 (i := _) (by rfl) rfl h
theorem st61 {cs vs : List Value} (h : cs.length = 13) (hv : vs.length = 13) (h1 : vs.all (·.oneCell') = true) : astore Try.prog 61 cs 0 (.agg vs.toArray) = some vs := astore_whole (i := _) (by rfl) h hv h1
theorem ethCells_one (d s : List UInt8) (t : Int) : (ethCells d s t).all (·.oneCell') = true := by
  simp only [ethCells, List.all_append, byteCells_one]; rfl
theorem ethCells_flat (k : Nat) (d s : List UInt8) (t : Int) : (ethCells d s t).all (flatN k) = true := by
  simp only [ethCells, List.all_append, byteCells_flat]; cases k <;> rfl
theorem retEth_flat {cs : List Value} (r : List UInt8) (e : Int) (h : cs.all (flatN 1) = true) : flat (.tuple #[.agg cs.toArray, asString r, .int .i64 e]) = true := by
  show ([Value.agg cs.toArray, asString r, .int .i64 e] : List Value).all (flatN 2) = true
  have : flatN 2 (.agg cs.toArray) = true := by
    show (cs.toArray.toList).all (flatN 1) = true
    simpa using h
  simp only [List.all_cons, this, List.all_nil, Bool.and_true, Bool.true_and]
  rfl
end Go.Proofs.Ytdkdkpiemigfkaa
