import Derived.Test.YtdlmincaplbpgaaCFnBooks4
namespace Go.Proofs.Ytdlmincaplbpgaa.Q
open Go.RowKit Go.Proofs.YtdlmincaplbpgaaW.PrintWords Go.Proofs.YtdlmincaplbpgaaW.PrintLast Go.Proofs.YtdlmincaplbpgaaW.PrintMore
attribute [local go_sem] max2_int min2_int max_two min_two max_three min_three max_four min_four
set_option linter.unusedVariables false
set_option linter.unusedSimpArgs false
structure Blk where
  g : Nat
  cs : List Value
  t : TypeId
structure RowF where
  es : List Nat
  p : World → Prop
  keep : ∀ (w w' : World), p w → (∀ (k : Nat) (c : Array Value) (q : Nat), q ∈ es → w.heap[k]? = some (Obj.cells c q (0, 0)) → w'.heap[k]? = w.heap[k]?) → p w'
def rowF {α : Type} (d : Kd α) (e base : Nat) (v : Value) (xs : List α) : RowF where
  es := e :: d.E
  p := fun w => d.R e w base (fun _ => True) v xs
  keep := fun w w' h hk => Kd.R_mono (Kd.R_move (Kd.R_bound h) (fun k ⟨_, _, _, q, hq, cells, hc⟩ => hk k cells q hq hc)) (fun _ _ => trivial)
structure WOk (w0 : World) (L : List Blk) (Rs : List RowF) (w : World) : Prop where
  below : Below w0.heap.size w0 w
  blk : ∀ b ∈ L, w0.heap.size ≤ b.g ∧ w.heap[b.g]? = some (.cells b.cs.toArray b.t (0, 0))
  nd : L.Pairwise (fun x y => x.g ≠ y.g)
  row : ∀ r ∈ Rs, r.p w
def lk : List (Nat × Value) → Nat → Option Value
  | [], _ => none
  | (k, v) :: l, t => bif Nat.beq t k then some v else lk l t
structure FOk (N : Nat) (Fr : List (Nat × Value)) (a : Act) : Prop where
  sz : a.tmps.size = N
  df : a.defers = []
  fr : ∀ t v, lk Fr t = some v → a.eval (.tmp t) = v
def evF (Fr : List (Nat × Value)) : Operand → Option Value
  | .tmp t => lk Fr t
  | .const v => some v
  | .global g => some (.pointer (some ⟨g, 0, none⟩))
  | .func f => some (.func (.func f) #[] #[])
theorem FOk.ev {N : Nat} {Fr : List (Nat × Value)} {a : Act} (h : FOk N Fr a) {x : Operand} {v : Value} (hx : evF Fr x = some v) : a.eval x = v := by
  cases x with
  | tmp t => exact h.fr t v hx
  | const u => exact Option.some.inj hx
  | global g => exact Option.some.inj hx
  | func f => exact Option.some.inj hx
theorem FOk.put {N : Nat} {Fr : List (Nat × Value)} {a : Act} (h : FOk N Fr a) {d : Nat} (hd : Nat.blt d N = true) (v : Value) : FOk N ((d, v) :: Fr) (a.put (some d) v) := by
  have hd' : d < a.tmps.size := by rw [h.sz]; simpa using hd
  refine ⟨by simpa [Act.put] using h.sz, h.df, fun t u ht => ?_⟩
  simp only [lk] at ht
  cases htd : Nat.beq t d with
  | true =>
    rw [htd] at ht
    have h1 : t = d := Nat.eq_of_beq_eq_true htd
    have h2 : v = u := Option.some.inj ht
    subst h1 h2
    simp [Act.eval, Act.put, hd']
  | false =>
    rw [htd] at ht
    have h1 : ¬ d = t := fun e => by subst e; simp at htd
    have h2 := h.fr t u ht
    simpa [Act.eval, Act.put, Array.getElem?_setIfInBounds_ne h1] using h2
def wantF (ops : Array Oper) (Fr : List (Nat × Value)) (o : Oper) : Option Bool :=
  match o.guard with
  | none => some true
  | some (j, want) => match ((ops[j]?).bind (·.dst)).bind (lk Fr) with
    | some (.bool b) => some (b == want)
    | some (.tuple _) => some false
    | _ => none
theorem FOk.want {N : Nat} {Fr : List (Nat × Value)} {a : Act} (h : FOk N Fr a) {ops : Array Oper} {o : Oper} {b : Bool} (hw : wantF ops Fr o = some b) : Region.wanted o (yielded ops a.tmps) = b := by
  unfold wantF at hw
  unfold Region.wanted
  cases hg : o.guard with
  | none => rw [hg] at hw; exact Option.some.inj hw
  | some x =>
    obtain ⟨j, want⟩ := x
    rw [hg] at hw
    simp only at hw ⊢
    cases hd : (ops[j]?).bind (·.dst) with
    | none => rw [hd] at hw; simp at hw
    | some d =>
      rw [hd, Option.bind_some] at hw
      cases hl : lk Fr d with
      | none => rw [hl] at hw; simp at hw
      | some v =>
        rw [hl] at hw
        cases v with
        | bool c =>
          simp only [Option.some.injEq] at hw
          have h1 := h.fr d _ hl
          have h2 : a.tmps[d]? = some (.bool c) := by
            simp only [Act.eval, Array.getD_eq_getD_getElem?] at h1
            cases h3 : a.tmps[d]? with
            | none => rw [h3] at h1; simp [undef] at h1
            | some u => rw [h3] at h1; simpa using h1
          have h3 : yielded ops a.tmps j = some c := by
            unfold yielded
            rw [hd, Option.bind_some, h2]
          rw [h3, ← hw]
          cases c <;> cases want <;> rfl
        | tuple vs =>
          simp only [Option.some.injEq] at hw
          have h1 := h.fr d _ hl
          have h3 : yielded ops a.tmps j = none := by
            unfold yielded
            rw [hd, Option.bind_some]
            simp only [Act.eval, Array.getD_eq_getD_getElem?] at h1
            cases h3 : a.tmps[d]? with
            | none => rfl
            | some u => rw [h3] at h1; have h4 : u = .tuple vs := by simpa using h1
                        rw [h4]
          rw [h3, ← hw]
          rfl
        | _ => simp at hw
theorem WOk.grow {w0 : World} {L : List Blk} {Rs : List RowF} {w w' : World} (h : WOk w0 L Rs w) (hg : Grow w w') : WOk w0 L Rs w' := by
  have lt : ∀ {k : Nat} {o : Obj}, w.heap[k]? = some o → k < w.heap.size := fun hk => (Array.getElem?_eq_some_iff.1 hk).1
  refine ⟨h.below.trans (hg.mono h.below.size), fun b hb => ⟨(h.blk b hb).1, ?_⟩, h.nd, fun r hr => r.keep _ _ (h.row r hr) fun k c q _ hk => hg.block k (lt hk)⟩
  rw [hg.block b.g (lt (h.blk b hb).2)]
  exact (h.blk b hb).2
theorem WOk.addBlk {w0 : World} {L : List Blk} {Rs : List RowF} {w : World} (h : WOk w0 L Rs w) {b : Blk} (h1 : w0.heap.size ≤ b.g) (h2 : w.heap[b.g]? = some (.cells b.cs.toArray b.t (0, 0))) (h3 : ∀ x ∈ L, b.g ≠ x.g) : WOk w0 (b :: L) Rs w :=
  ⟨h.below, fun x hx => by
    cases hx with
    | head => exact ⟨h1, h2⟩
    | tail _ hx => exact h.blk x hx, List.pairwise_cons.2 ⟨h3, h.nd⟩, h.row⟩
theorem WOk.addRows {w0 : World} {L : List Blk} {Rs : List RowF} {w : World} (h : WOk w0 L Rs w) {rs : List RowF} (hr : ∀ r ∈ rs, r.p w) : WOk w0 L (rs ++ Rs) w :=
  ⟨h.below, h.blk, h.nd, fun r hx => (List.mem_append.1 hx).elim (hr r) (h.row r)⟩
theorem WOk.alloc {w0 : World} {L : List Blk} {Rs : List RowF} {w : World} (h : WOk w0 L Rs w) (cs : List Value) (t : TypeId) : WOk w0 (⟨w.heap.size, cs, t⟩ :: L) Rs (w.alloc (.cells cs.toArray t)) := by
  have hg : Grow w (w.alloc (.cells cs.toArray t)) := (Below.refl _ _).alloc (Nat.le_refl _) _
  refine (h.grow hg).addBlk h.below.size ?_ fun x hx e => ?_
  · show (w.heap.push _)[w.heap.size]? = _
    simp
  · have := (Array.getElem?_eq_some_iff.1 (h.blk x hx).2).1
    have e' : w.heap.size = x.g := e
    omega
section
variable {P : Program} {ops : Array Oper} {Q : Exit → Act → World → Prop} {N : Nat} {w0 : World} {Fr : List (Nat × Value)} {L : List Blk} {Rs : List RowF} {o : Oper} {rest : List Oper}
def SyL (P : Program) (ops : Array Oper) (Q : Exit → Act → World → Prop) (N : Nat) (w0 : World) (rest : List Oper) (Fr : List (Nat × Value)) (L : List Blk) (Rs : List RowF) : Prop :=
  ∀ a w, FOk N Fr a → WOk w0 L Rs w → wpList P ops Q rest a w
def SyC (P : Program) (Q : Exit → Act → World → Prop) (N : Nat) (w0 : World) (c : Code) (Fr : List (Nat × Value)) (L : List Blk) (Rs : List RowF) : Prop :=
  ∀ a w, FOk N Fr a → WOk w0 L Rs w → c.wp P Q a w
def SyP (Q : Exit → Act → World → Prop) (N : Nat) (w0 : World) (e : Exit) (Fr : List (Nat × Value)) (L : List Blk) (Rs : List RowF) : Prop :=
  ∀ a w, FOk N Fr a → WOk w0 L Rs w → Q e a w
def Xrun (P : Program) (N : Nat) (w0 : World) (Fr : List (Nat × Value)) (L : List Blk) (Rs : List RowF) (o : Oper) (c : Value) : Prop :=
  ∀ a w, FOk N Fr a → WOk w0 L Rs w → (execOp a.eval o).run P w = .ok (.value c) w
theorem SyL.nil (h : SyP Q N w0 .normal Fr L Rs) : SyL P ops Q N w0 [] Fr L Rs := h
theorem SyL.x {c : Value} {d : Nat} (h : Xrun P N w0 Fr L Rs o c) (hg : wantF ops Fr o = some true) (hd : o.dst = some d) (hN : Nat.blt d N = true) (k : SyL P ops Q N w0 rest ((d, c) :: Fr) L Rs) : SyL P ops Q N w0 (o :: rest) Fr L Rs := by
  intro a w ha hw
  unfold wpList
  rw [if_pos (ha.want hg)]
  refine .inl ?_
  unfold Oper.wp
  rw [h a w ha hw]
  show wpList P ops Q rest (a.put o.dst c) w
  rw [hd]
  exact k _ w (ha.put hN c) hw
theorem SyL.skip {d : Nat} (hg : wantF ops Fr o = some false) (hd : o.dst = some d) (hN : Nat.blt d N = true) (k : SyL P ops Q N w0 rest ((d, undef) :: Fr) L Rs) : SyL P ops Q N w0 (o :: rest) Fr L Rs := by
  intro a w ha hw
  unfold wpList
  rw [if_neg (by rw [ha.want hg]; decide), hd]
  exact k _ w (ha.put hN _) hw
theorem SyL.fewer {Fr' : List (Nat × Value)} (h : ∀ t v, lk Fr' t = some v → lk Fr t = some v) (k : SyL P ops Q N w0 rest Fr' L Rs) : SyL P ops Q N w0 rest Fr L Rs :=
  fun a w ha hw => k a w ⟨ha.sz, ha.df, fun t v ht => ha.fr t v (h t v ht)⟩ hw
theorem x_move {x : Operand} {v : Value} (ho : o.op = .move x ∨ o.op = .assign x) (hx : evF Fr x = some v) : Xrun P N w0 Fr L Rs o v := by
  intro a w ha hw
  unfold execOp
  rcases ho with ho | ho <;> simp only [ho, ha.ev hx] <;> rfl
theorem x_pickT {c x y : Operand} {v : Value} (ho : o.op = .pick c x y) (hc : evF Fr c = some (.bool true)) (hx : evF Fr x = some v) : Xrun P N w0 Fr L Rs o v := by
  intro a w ha hw
  unfold execOp
  simp only [ho, ha.ev hc, ha.ev hx, asBool]
  rfl
theorem x_pickF {c x y : Operand} {v : Value} (ho : o.op = .pick c x y) (hc : evF Fr c = some (.bool false)) (hx : evF Fr y = some v) : Xrun P N w0 Fr L Rs o v := by
  intro a w ha hw
  unfold execOp
  simp only [ho, ha.ev hc, ha.ev hx, asBool]
  rfl
theorem x_not {x : Operand} {ty : TypeId} {b : Bool} (ho : o.op = .unOp .not ty x) (hx : evF Fr x = some (.bool b)) : Xrun P N w0 Fr L Rs o (.bool (!b)) := by
  intro a w ha hw
  unfold execOp
  simp only [ho, ha.ev hx]
  rfl
theorem x_extract {x : Operand} {i : Nat} {vs : List Value} {v : Value} (ho : o.op = .extract x i) (hx : evF Fr x = some (.tuple vs.toArray)) (hv : vs[i]? = some v) : Xrun P N w0 Fr L Rs o v := by
  intro a w ha hw
  unfold execOp
  simp only [ho, ha.ev hx, Instr.extract]
  simp [hv]
def aggT (P : Program) (t : TypeId) : Option Nat := match P.underlying t with
  | some (.struct _) | some (.array _ _) => (P.info? t).map (·.size)
  | _ => none
def oneT (P : Program) (t : TypeId) : Bool := match P.underlying t with
  | some (.struct _) | some (.array _ _) => false
  | some _ => (P.info? t).any (·.size == 1)
  | none => false
theorem run_isAgg {t n : Nat} (h : aggT P t = some n) (w : World) : (isAgg t).run P w = .ok true w ∧ (sizeOf t).run P w = .ok n w := by
  unfold aggT at h
  cases hu : P.underlying t with
  | none => rw [hu] at h; cases h
  | some d =>
    rw [hu] at h
    have h2 : (P.info? t).map (·.size) = some n := by cases d <;> first | exact h | cases h
    have h3 : (isAgg t).run P w = .ok true w := by
      unfold isAgg
      rw [Sem.run_bind, run_underlying hu w]
      cases d <;> first | rfl | cases h
    refine ⟨h3, ?_⟩
    cases hi : P.info? t with
    | none => rw [hi] at h2; cases h2
    | some i =>
      rw [hi] at h2
      have : i.size = n := by simpa using h2
      simp [sizeOf, typeInfo, hi, this]
theorem run_isOne {t : Nat} (h : oneT P t = true) (w : World) : (isAgg t).run P w = .ok false w ∧ (sizeOf t).run P w = .ok 1 w := by
  unfold oneT at h
  cases hu : P.underlying t with
  | none => rw [hu] at h; cases h
  | some d =>
    rw [hu] at h
    have h2 : (P.info? t).any (·.size == 1) = true := by cases d <;> first | exact h | cases h
    have h3 : (isAgg t).run P w = .ok false w := by
      unfold isAgg
      rw [Sem.run_bind, run_underlying hu w]
      cases d <;> first | rfl | cases h
    refine ⟨h3, ?_⟩
    cases hi : P.info? t with
    | none => rw [hi] at h2; cases h2
    | some i =>
      rw [hi] at h2
      have : i.size = 1 := by simpa using h2
      simp [sizeOf, typeInfo, hi, this]
theorem add_off (g off j : Nat) : (⟨g, off, none⟩ : Addr).add j = ⟨g, off + j, none⟩ := by
  unfold Addr.add
  split
  · rename_i h; subst h; rfl
  · rfl
theorem cell_blk {w : World} {b : Blk} (h : w.heap[b.g]? = some (.cells b.cs.toArray b.t (0, 0))) (j : Nat) : w.cell? ⟨b.g, j, none⟩ = b.cs[j]? := by
  rw [cell_of_row w b.g j _ _ _ h]
  simp
theorem x_loadA {x : Operand} {t g off n i : Nat} {b : Blk} {mid : List Value} (ho : o.op = .load t x) (hx : evF Fr x = some (.pointer (some ⟨g, off, none⟩))) (hb : L[i]? = some b) (hbg : b.g = g) (ht : aggT P t = some n)
    (hv : (b.cs.drop off).take n = mid) (hn : mid.length = n) : Xrun P N w0 Fr L Rs o (.agg mid.toArray) := by
  intro a w ha hw
  unfold execOp
  have hblk := (hw.blk b (List.mem_of_getElem? hb)).2
  subst hbg
  have hl : (loadCells ⟨b.g, off, none⟩ mid.length).run P w = .ok mid.toArray w :=
    run_loadCells_list (P := P) w ⟨b.g, off, none⟩ mid (fun j v hv' => by
      rw [add_off, cell_blk hblk]
      rw [← hv, List.getElem?_take] at hv'
      split at hv'
      · rwa [List.getElem?_drop] at hv'
      · cases hv')
  have h1 := run_isAgg ht w
  simp only [ho, ha.ev hx, Instr.loadAt, Instr.sureAddr, loadVar]
  simp [Sem.run_bind, h1.1, h1.2, ← hn, hl]
theorem x_load1 {x : Operand} {t g off i : Nat} {b : Blk} {v : Value} (ho : o.op = .load t x) (hx : evF Fr x = some (.pointer (some ⟨g, off, none⟩))) (hb : L[i]? = some b) (hbg : b.g = g) (ht : oneT P t = true)
    (hv : b.cs[off]? = some v) : Xrun P N w0 Fr L Rs o v := by
  intro a w ha hw
  unfold execOp
  have hblk := (hw.blk b (List.mem_of_getElem? hb)).2
  subst hbg
  have hc : w.cell? ⟨b.g, off, none⟩ = some v := by rw [cell_blk hblk]; exact hv
  have h1 := run_isOne ht w
  simp only [ho, ha.ev hx, Instr.loadAt, Instr.sureAddr, loadVar]
  simp [Sem.run_bind, h1.1, load, Sem.run, hc]
def fieldOff (P : Program) (s j : Nat) : Option Nat := match P.underlying s with
  | some (.struct fs) => (fs[j]?).bind fun f => (P.info? f.type).bind fun i => if i.size = 0 then none else some f.offset
  | _ => none
theorem x_fieldAddr {x : Operand} {s j g off k m : Nat} (ho : o.op = .fieldAddr s x j) (hx : evF Fr x = some (.pointer (some ⟨g, off, none⟩))) (hf : fieldOff P s j = some k) (hm : off + k = m) : Xrun P N w0 Fr L Rs o (.pointer (some ⟨g, m, none⟩)) := by
  intro a w ha hw
  unfold execOp
  subst hm
  unfold fieldOff at hf
  cases hu : P.underlying s with
  | none => rw [hu] at hf; cases hf
  | some d =>
    rw [hu] at hf
    cases d with
    | struct fs =>
      simp only at hf
      cases hj : fs[j]? with
      | none => rw [hj] at hf; cases hf
      | some f =>
        rw [hj, Option.bind_some] at hf
        cases hi : P.info? f.type with
        | none => rw [hi] at hf; cases hf
        | some q =>
          rw [hi, Option.bind_some] at hf
          split at hf
          · cases hf
          · rename_i hne
            have hk : f.offset = k := Option.some.inj hf
            have hz : (sizeOf f.type).run P w = .ok q.size w := by simp [sizeOf, typeInfo, hi]
            simp only [ho, ha.ev hx, Instr.fieldAt]
            simp [Sem.run_bind, run_underlying hu w, hj, Instr.sureAddr, fieldPlace, hz, hne, add_off, hk]
    | _ => cases hf
theorem x_bin {op : BinOp} {t t2 : TypeId} {x y : Operand} {k : IntKind} {p q : Int} {v : Value} (ho : o.op = .binOp op t x y t2) (hx : evF Fr x = some (.int k p)) (hy : evF Fr y = some (.int k q)) (hne : (op matches .shl | .shr) = false) (hr : ∀ w, (binOp op t (.int k p) (.int k q)).run P w = .ok v w) : Xrun P N w0 Fr L Rs o v := by
  intro a w ha hw
  unfold execOp
  simp only [ho, ha.ev hx, ha.ev hy]
  have hg : (eqGuard op t x y (.int k p) (.int k q)).run P w = .ok () w := by
    unfold eqGuard
    cases op <;> rfl
  simp [Sem.run_bind, hg, hr w]
theorem x_arith {op : BinOp} {t t2 : TypeId} {x y : Operand} {k : IntKind} {p q : Int} {v : Value} (ho : o.op = .binOp op t x y t2) (hx : evF Fr x = some (.int k p)) (hy : evF Fr y = some (.int k q)) (hv : (match op with | .add => some (Value.int k (k.wrap (p + q))) | .sub => some (.int k (k.wrap (p - q))) | .mul => some (.int k (k.wrap (p * q))) | _ => none) = some v) : Xrun P N w0 Fr L Rs o v := by
  refine x_bin ho hx hy ?_ fun w => ?_
  · cases op <;> first | rfl | cases hv
  · cases op <;> first | (cases hv; done) | (cases hv; simp [binOp, Op.intArith])
theorem i64_is' (n : Int) : IntKind.i64.wrap n = wrap64 n := by rw [IntKind.wrap_i64]; unfold wrap64; rfl
theorem x_arith64 {op : BinOp} {t t2 : TypeId} {x y : Operand} {p q : Int} {v : Value} (ho : o.op = .binOp op t x y t2) (hx : evF Fr x = some (.int .i64 p)) (hy : evF Fr y = some (.int .i64 q)) (hv : (match op with | .add => some (Value.int .i64 (wrap64 (p + q))) | .sub => some (.int .i64 (wrap64 (p - q))) | .mul => some (.int .i64 (wrap64 (p * q))) | _ => none) = some v) : Xrun P N w0 Fr L Rs o v :=
  x_arith ho hx hy (by simp only [← i64_is'] at hv; exact hv)
theorem x_cmp {op : BinOp} {t t2 : TypeId} {x y : Operand} {k : IntKind} {p q : Int} {v : Value} (ho : o.op = .binOp op t x y t2) (hx : evF Fr x = some (.int k p)) (hy : evF Fr y = some (.int k q)) (hv : (match op with | .eql => some (Value.bool (p == q)) | .neq => some (.bool (p != q)) | .lss => some (.bool (decide (p < q))) | .leq => some (.bool (decide (p ≤ q))) | .gtr => some (.bool (decide (p > q))) | .geq => some (.bool (decide (p ≥ q))) | _ => none) = some v) : Xrun P N w0 Fr L Rs o v := by
  refine x_bin ho hx hy ?_ fun w => ?_
  · cases op <;> first | rfl | cases hv
  · cases op <;> first | (cases hv; done) | (cases hv; simp [binOp, Op.intCmp])
theorem x_field {x : Operand} {s j : Nat} {cs : List Value} {v : Value} {f : Field} {fs : Array Field} (ho : o.op = .field s x j) (hx : evF Fr x = some (.agg cs.toArray)) (hu : P.underlying s = some (.struct fs)) (hj : fs[j]? = some f)
    (hv : (oneT P f.type = true ∧ cs[f.offset]? = some v) ∨ ∃ n mid, aggT P f.type = some n ∧ (cs.drop f.offset).take n = mid ∧ v = .agg mid.toArray) : Xrun P N w0 Fr L Rs o v := by
  intro a w ha hw
  unfold execOp
  rcases hv with ⟨h1, h2⟩ | ⟨n, mid, h1, h2, rfl⟩
  · have h3 := run_isOne h1 w
    simp only [ho, ha.ev hx, Instr.field]
    simp [Sem.run_bind, run_underlying hu w, hj, asAgg, part, h3.1, h2]
  · have h3 := run_isAgg h1 w
    simp only [ho, ha.ev hx, Instr.field]
    simp [Sem.run_bind, run_underlying hu w, hj, asAgg, part, h3.1, h3.2, ← h2]
def buildT (P : Program) (t : TypeId) : Option (Array Value × Array (Nat × Nat)) := match P.underlying t, P.info? t with
  | some (.struct fs), some i => i.zero.bind fun z => (fs.mapM fun f => (P.info? f.type).map fun q => (f.offset, q.size)).map fun ps => (z.cells, ps)
  | _, _ => none
theorem run_mapM_opt {α β : Type} (f : α → Sem β) (g : α → Option β) (w : World) (h : ∀ x b, g x = some b → (f x).run P w = .ok b w) : ∀ (l : List α) (bs : List β), l.mapM g = some bs → (l.mapM f).run P w = .ok bs w
  | [], bs, hb => by
    have : bs = [] := by simpa using hb.symm
    subst this
    rfl
  | x :: l, bs, hb => by
    rw [List.mapM_cons] at hb ⊢
    cases hx : g x with
    | none => rw [hx] at hb; cases hb
    | some b =>
      rw [hx] at hb
      cases hl : l.mapM g with
      | none => rw [hl] at hb; cases hb
      | some cs =>
        rw [hl] at hb
        have : b :: cs = bs := by simpa using hb
        subst this
        rw [Sem.run_bind, h x b hx, Result.andThen_ok, Sem.run_bind, run_mapM_opt f g w h l cs hl]
        rfl
theorem x_build {t : TypeId} {parts : List (Nat × Operand)} {us : List (Nat × Value)} {z cells : Array Value} {ps : Array (Nat × Nat)} (ho : o.op = .build t parts.toArray) (hb : buildT P t = some (z, ps)) (hp : parts.map (fun x => (evF Fr x.2).map fun v => (x.1, v)) = us.map some)
    (hf : Instr.fill (ps[·]?) z us = some cells) : Xrun P N w0 Fr L Rs o (.agg cells) := by
  intro a w ha hw
  unfold execOp
  have h1 : parts.map (fun (i, x) => (i, a.eval x)) = us := by
    have h2 : (parts.map (fun (i, x) => (i, a.eval x))).map some = us.map some := by
      rw [← hp, List.map_map]
      refine List.map_congr_left fun x hx => ?_
      have hm : (evF Fr x.2).map (fun v => (x.1, v)) ∈ us.map some := by rw [← hp]; exact List.mem_map_of_mem hx
      obtain ⟨u, _, hu⟩ := List.mem_map.1 hm
      cases he : evF Fr x.2 with
      | none => rw [he] at hu; cases hu
      | some v => simp [ha.ev he]
    exact List.map_inj_right (fun _ _ h => Option.some.inj h) |>.1 h2
  unfold buildT at hb
  cases hu : P.underlying t with
  | none => rw [hu] at hb; cases hb
  | some d =>
    cases hi : P.info? t with
    | none => rw [hu, hi] at hb; cases d <;> cases hb
    | some i =>
      rw [hu, hi] at hb
      cases d with
      | struct fs =>
        simp only at hb
        cases hz : i.zero with
        | none => rw [hz] at hb; cases hb
        | some zv =>
          rw [hz, Option.bind_some] at hb
          cases hm : (fs.mapM fun f => (P.info? f.type).map fun q => (f.offset, q.size)) with
          | none => rw [hm] at hb; cases hb
          | some qs =>
            rw [hm] at hb
            obtain ⟨rfl, rfl⟩ : zv.cells = z ∧ qs = ps := by simpa using hb
            have hzr : (zeroValue t).run P w = .ok zv w := by simp [zeroValue, typeInfo, hi, hz]
            have hpl : (fs.mapM (fun f => Prod.mk f.offset <$> sizeOf f.type) : Sem (Array (Nat × Nat))).run P w = .ok qs w := by
              rw [Array.mapM_eq_mapM_toList] at hm ⊢
              cases hm2 : (fs.toList.mapM fun f => (P.info? f.type).map fun q => (f.offset, q.size)) with
              | none => rw [hm2] at hm; cases hm
              | some bs =>
                rw [hm2] at hm
                have hq : bs.toArray = qs := by simpa using hm
                have h3 := run_mapM_opt (P := P) (fun f => Prod.mk f.offset <$> sizeOf f.type : Field → Sem (Nat × Nat)) (fun f => (P.info? f.type).map fun q => (f.offset, q.size)) w (fun f b hfb => by
                  cases hq2 : P.info? f.type with
                  | none => rw [hq2] at hfb; cases hfb
                  | some q =>
                    rw [hq2] at hfb
                    have : (f.offset, q.size) = b := by simpa using hfb
                    subst this
                    simp [sizeOf, typeInfo, hq2]) fs.toList bs hm2
                simp [h3, hq]
            simp only [ho, Instr.build]
            simp [Sem.run_bind, hzr, run_underlying hu w, hpl, h1, hf]
      | _ => cases hb
theorem x_len {x : Operand} {t : TypeId} {A : Option Addr} {n c : Nat} (ho : o.op = .call { callee := .builtin .len, args := #[x], argTypes := #[t] }) (hx : evF Fr x = some (.slice A n c)) (ht : P.underlying t = some (.slice (P.elem t))) : Xrun P N w0 Fr L Rs o (.int .i64 n) := by
  intro a w ha hw
  unfold execOp
  simp [ho, resolve, invoke, builtin, ha.ev hx, run_len_slice w t o.type A n c ht, goInt]
def sizeT (P : Program) (t : TypeId) : Option Nat := (P.info? t).map (·.size)
theorem run_newRow (t : TypeId) (cs : Array Value) (w : World) : (newRow t cs).run P w = .ok ⟨w.heap.size, 0, none⟩ (w.alloc (.cells cs t)) := rfl
theorem SyL.box {t : TypeId} {x : Operand} {v : Value} {cs : List Value} (ho : o.op = .box t x) (hx : evF Fr x = some v) (hc : v.cells = cs.toArray) (hg : wantF ops Fr o = some true) {d : Nat} (hd : o.dst = some d) (hN : Nat.blt d N = true)
    (k : ∀ g, SyL P ops Q N w0 rest ((d, (.pointer (some ⟨g, 0, none⟩))) :: Fr) (⟨g, cs, t⟩ :: L) Rs) : SyL P ops Q N w0 (o :: rest) Fr L Rs := by
  intro a w ha hw
  unfold wpList
  rw [if_pos (ha.want hg)]
  refine .inl ?_
  have hrun : (execOp a.eval o).run P w = .ok (.value (.pointer (some ⟨w.heap.size, 0, none⟩))) (w.alloc (.cells cs.toArray t)) := by
    unfold execOp
    simp only [ho, ha.ev hx, Instr.box]
    simp [newVar, run_newRow, Sem.run_bind, hc]
  unfold Oper.wp
  rw [hrun]
  show wpList P ops Q rest (a.put o.dst _) _
  rw [hd]
  exact k w.heap.size _ _ (ha.put hN _) (hw.alloc cs t)
def zeroT (P : Program) (t : TypeId) : Option (Array Value) := (P.info? t).bind fun i => i.zero.map (·.cells)
theorem SyL.alloc {t : TypeId} {cs : List Value} (ho : o.op = .alloc t) (hz : zeroT P t = some cs.toArray) (hg : wantF ops Fr o = some true) {d : Nat} (hd : o.dst = some d) (hN : Nat.blt d N = true)
    (k : ∀ g, SyL P ops Q N w0 rest ((d, (.pointer (some ⟨g, 0, none⟩))) :: Fr) (⟨g, cs, t⟩ :: L) Rs) : SyL P ops Q N w0 (o :: rest) Fr L Rs := by
  intro a w ha hw
  unfold wpList
  rw [if_pos (ha.want hg)]
  refine .inl ?_
  have hrun : (execOp a.eval o).run P w = .ok (.value (.pointer (some ⟨w.heap.size, 0, none⟩))) (w.alloc (.cells cs.toArray t)) := by
    unfold execOp
    unfold zeroT at hz
    cases hi : P.info? t with
    | none => rw [hi] at hz; cases hz
    | some i =>
      rw [hi, Option.bind_some] at hz
      cases hzz : i.zero with
      | none => rw [hzz] at hz; cases hz
      | some z =>
        rw [hzz] at hz
        have hc : z.cells = cs.toArray := by simpa using hz
        simp only [ho, Instr.alloc]
        simp [zeroValue, typeInfo, hi, hzz, newVar, run_newRow, Sem.run_bind, hc]
  unfold Oper.wp
  rw [hrun]
  show wpList P ops Q rest (a.put o.dst _) _
  rw [hd]
  exact k w.heap.size _ _ (ha.put hN _) (hw.alloc cs t)
theorem SyL.buildSlice {t e : TypeId} {ie : TypeInfo} {n : Nat} {parts : List (Nat × Operand)} {us : List (Nat × Value)} {z : Value} {cells : List Value} (ho : o.op = .buildSlice t n parts.toArray) (ht : P.underlying t = some (.slice e)) (hi : P.info? e = some ie) (hz : ie.zero = some z) (hs : n * ie.size ≤ 2 ^ 24) (hp : parts.map (fun x => (evF Fr x.2).map fun v => (x.1, v)) = us.map some)
    (hf : Instr.fill (fun i => some (i * ie.size, ie.size)) ((Array.range (n * ie.size)).map ((if n * ie.size = 0 then #[] else z.cells)[· % (if n * ie.size = 0 then #[] else z.cells).size]!)) us = some cells.toArray) (hg : wantF ops Fr o = some true) {d : Nat} (hd : o.dst = some d) (hN : Nat.blt d N = true)
    (k : ∀ g, SyL P ops Q N w0 rest ((d, (.slice (some ⟨g, 0, none⟩) n n)) :: Fr) (⟨g, cells, e⟩ :: L) Rs) : SyL P ops Q N w0 (o :: rest) Fr L Rs := by
  intro a w ha hw
  unfold wpList
  rw [if_pos (ha.want hg)]
  refine .inl ?_
  have h1 : parts.map (fun (i, x) => (i, a.eval x)) = us := by
    have h2 : (parts.map (fun (i, x) => (i, a.eval x))).map some = us.map some := by
      rw [← hp, List.map_map]
      refine List.map_congr_left fun x hx => ?_
      have hm : (evF Fr x.2).map (fun v => (x.1, v)) ∈ us.map some := by rw [← hp]; exact List.mem_map_of_mem hx
      obtain ⟨u, _, hu⟩ := List.mem_map.1 hm
      cases he : evF Fr x.2 with
      | none => rw [he] at hu; cases hu
      | some v => simp [ha.ev he]
    exact List.map_inj_right (fun _ _ h => Option.some.inj h) |>.1 h2
  have hrun : (execOp a.eval o).run P w = .ok (.value (.slice (some ⟨w.heap.size, 0, none⟩) n n)) (w.alloc (.cells cells.toArray e)) := by
    unfold execOp
    have hsz : (sizeOf e).run P w = .ok ie.size w := by simp [sizeOf, typeInfo, hi]
    have hzr : (zeroValue e).run P w = .ok z w := by simp [zeroValue, typeInfo, hi, hz]
    have hs' : ¬ n * ie.size > 2 ^ 24 := by omega
    simp only [ho, Instr.buildSlice]
    by_cases h0 : n * ie.size = 0
    · rw [if_pos h0] at hf
      simp [Sem.run_bind, run_underlying ht w, hsz, hs', h0, h1, run_newRow]
      simp [h0] at hf
      simp [hf, Sem.run_bind, run_newRow]
    · rw [if_neg h0] at hf
      simp [Sem.run_bind, run_underlying ht w, hsz, hs', h0, hzr, h1, run_newRow]
      try simp at hf
      simp [hf, Sem.run_bind, run_newRow]
  unfold Oper.wp
  rw [hrun]
  show wpList P ops Q rest (a.put o.dst _) _
  rw [hd]
  exact k w.heap.size _ _ (ha.put hN _) (hw.alloc cells e)
def splice (cs : List Value) (off : Nat) (vs : List Value) : List Value := cs.take off ++ vs ++ cs.drop (off + vs.length)
theorem splice_set (cs : List Value) (v : Value) (vs : List Value) (p : Nat) (h : p < cs.length) : splice (cs.set p v) (p + 1) vs = splice cs p (v :: vs) := by
  unfold splice
  have h1 : (cs.set p v).take (p + 1) = cs.take p ++ [v] := by
    rw [List.take_set, List.take_succ_eq_append_getElem h, List.set_append_right _ _ (by simp; omega)]
    have : p - (cs.take p).length = 0 := by simp; omega
    rw [this]
    rfl
  have h2 : (cs.set p v).drop (p + 1 + vs.length) = cs.drop (p + 1 + vs.length) := List.drop_set_of_lt (by omega)
  rw [h1, h2]
  have h3 : p + 1 + vs.length = p + (v :: vs).length := by simp only [List.length_cons]; omega
  rw [h3]
  simp
theorem setCell_blk {w : World} {g : Nat} {cs : List Value} {t : TypeId} (h : w.heap[g]? = some (.cells cs.toArray t (0, 0))) (j : Nat) (v : Value) : (w.setCell ⟨g, j, none⟩ v).heap[g]? = some (.cells (cs.set j v).toArray t (0, 0)) := by
  rw [heap_setCell_same w g j _ t v h]
  simp
theorem run_storeCells (vs : List Value) : ∀ (w : World) (g off i : Nat) (cs : List Value) (t : TypeId), w.heap[g]? = some (.cells cs.toArray t (0, 0)) → off + i + vs.length ≤ cs.length → (∀ u ∈ vs, u.oneCell' = true) →
    ∃ w', (storeCells ⟨g, off, none⟩ vs i).run P w = .ok () w' ∧ w'.heap[g]? = some (.cells (splice cs (off + i) vs).toArray t (0, 0)) ∧ w'.heap.size = w.heap.size ∧ (∀ k, k ≠ g → w'.heap[k]? = w.heap[k]?) ∧ w'.os = w.os ∧ w'.tape = w.tape ∧ w'.output = w.output := by
  induction vs with
  | nil =>
    intro w g off i cs t h hl _
    exact ⟨w, rfl, by simpa [splice] using h, rfl, fun _ _ => rfl, rfl, rfl, rfl⟩
  | cons v vs ih =>
    intro w g off i cs t h hl h1
    have hc : w.cell? ⟨g, off + i, none⟩ = cs[off + i]? := by
      rw [cell_of_row w g (off + i) _ _ _ h]
      simp
    have hlt : off + i < cs.length := by simp only [List.length_cons] at hl; omega
    have hf : w.frozen? ⟨g, off + i, none⟩ = false := frozen_of_row w g (off + i) _ t h
    obtain ⟨w', h2, h3, h4, h5, h6, h7, h8⟩ := ih (w.setCell ⟨g, off + i, none⟩ v) g off (i + 1) (cs.set (off + i) v) t (setCell_blk h _ _) (by simp only [List.length_cons, List.length_set] at hl ⊢; omega) (fun u hu => h1 u (List.mem_cons_of_mem _ hu))
    refine ⟨w', ?_, ?_, by rw [h4]; simp [World.setCell], fun k hk => (h5 k hk).trans (heap_setCell_other w _ k v hk), h6, h7, h8⟩
    · have hv := h1 v List.mem_cons_self
      have hst : (store ((⟨g, off, none⟩ : Addr).add i) v).run P w = .ok () (w.setCell ⟨g, off + i, none⟩ v) := by
        rw [add_off]
        have hc' : w.cell? ⟨g, off + i, none⟩ = some cs[off + i] := by rw [hc]; simp [hlt]
        cases v <;> first | (simp [Value.oneCell'] at hv; done) | simp [store, Sem.run, hc', hf]
      unfold storeCells
      rw [Sem.run_bind, hst]
      exact h2
    · rw [h3, ← Nat.add_assoc, splice_set cs v vs (off + i) (by simp only [List.length_cons] at hl; omega)]
theorem SyL.store {t : TypeId} {x y : Operand} {g off n i : Nat} {b : Blk} {v : Value} {vs cs' : List Value} (ho : o.op = .store t x y) (hx : evF Fr x = some (.pointer (some ⟨g, off, none⟩))) (hy : evF Fr y = some v) (hb : L[i]? = some b) (hbg : b.g = g)
    (hc : v.cells = vs.toArray) (ht : (sizeT P t) = some n) (hn : vs.length = n) (h1 : vs.all (·.oneCell') = true) (hl : off + n ≤ b.cs.length) (hs : splice b.cs off vs = cs') (hT : ∀ r ∈ Rs, b.t ∉ r.es) (hg : wantF ops Fr o = some true) (hd : o.dst = none)
    (k : SyL P ops Q N w0 rest Fr (L.set i ⟨g, cs', b.t⟩) Rs) : SyL P ops Q N w0 (o :: rest) Fr L Rs := by
  intro a w ha hw
  unfold wpList
  rw [if_pos (ha.want hg)]
  refine .inl ?_
  have hmem := List.mem_of_getElem? hb
  have hblk := hw.blk b hmem
  subst hbg
  obtain ⟨w', h2, h3, h4, h5, h6, h7, h8⟩ := run_storeCells (P := P) vs w b.g off 0 b.cs b.t hblk.2 (by omega) (fun u hu => List.all_eq_true.1 h1 u hu)
  rw [Nat.add_zero, hs] at h3
  have hsz : (sizeOf t).run P w = .ok n w := by
    unfold sizeT at ht
    cases hi : P.info? t with
    | none => rw [hi] at ht; cases ht
    | some q =>
      rw [hi] at ht
      have : q.size = n := by simpa using ht
      simp [sizeOf, typeInfo, hi, this]
  have hrun : (execOp a.eval o).run P w = .ok .skip w' := by
    unfold execOp
    simp only [ho, ha.ev hx, ha.ev hy, Instr.storeAt, Instr.sureAddr, storeVar]
    simp [Sem.run_bind, hsz, hc, hn, h2]
  unfold Oper.wp
  rw [hrun]
  refine k _ w' (by rw [hd]; exact ha) ⟨?_, ?_, ?_, ?_⟩
  · refine hw.below.trans ⟨h6, h7, h8, Nat.le_of_eq h4.symm, fun q hq => h5 q (by have := hblk.1; omega)⟩
  · intro c hc'
    obtain ⟨j, hj⟩ := List.getElem?_of_mem hc'
    rw [List.getElem?_set] at hj
    by_cases hij : i = j
    · subst hij
      rw [if_pos rfl] at hj
      split at hj
      · have := Option.some.inj hj
        subst this
        exact ⟨hblk.1, h3⟩
      · cases hj
    · rw [if_neg hij] at hj
      have hcb := hw.blk c (List.mem_of_getElem? hj)
      refine ⟨hcb.1, ?_⟩
      rw [h5 c.g ?_]
      · exact hcb.2
      · have hnd := hw.nd
        rw [List.pairwise_iff_getElem] at hnd
        obtain ⟨hi', rfl⟩ := List.getElem?_eq_some_iff.1 hb
        obtain ⟨hj', rfl⟩ := List.getElem?_eq_some_iff.1 hj
        rcases Nat.lt_or_gt_of_ne hij with h | h
        · exact fun e => hnd i j hi' hj' h e.symm
        · exact fun e => hnd j i hj' hi' h e
  · have e : (L.set i ⟨b.g, cs', b.t⟩).map (·.g) = L.map (·.g) := by
      apply List.ext_getElem?
      intro j
      simp only [List.getElem?_map, List.getElem?_set]
      by_cases hij : i = j
      · subst hij
        rw [if_pos rfl, hb]
        have := (List.getElem?_eq_some_iff.1 hb).1
        simp [this]
      · rw [if_neg hij]
    have h9 := hw.nd
    have h10 : ∀ M : List Blk, M.Pairwise (fun x y => x.g ≠ y.g) ↔ (M.map (·.g)).Pairwise (· ≠ ·) := fun M => (List.pairwise_map).symm
    rw [h10, e, ← h10]
    exact h9
  · intro r hr
    refine r.keep _ _ (hw.row r hr) fun q c u hu hq => h5 q ?_
    rintro rfl
    rw [hblk.2] at hq
    injection hq with hq
    injection hq with _ hq
    exact hT r hr (hq ▸ hu)
def callable (P : Program) (f : FuncId) : Bool := match P.funcs[f]? with
  | some fn => !(fn.name == "runtime.NumGoroutine") && fn.body.isSome
  | none => false
theorem run_callable {f : FuncId} (h : callable P f = true) (args : Array Value) (w : World) : (callFunc f args).run P w = .ok (.enter f args) w := by
  unfold callable at h
  cases hf : P.funcs[f]? with
  | none => rw [hf] at h; cases h
  | some fn =>
    rw [hf] at h
    simp only [Bool.and_eq_true, Bool.not_eq_true'] at h
    exact enters_ hf h.1 h.2 args w
def AllP (rs : List RowF) (w : World) : Prop := ∀ r ∈ rs, r.p w
theorem run_callF {a : Act} {f : FuncId} {xs : List Operand} {ts : Array TypeId} {vs : List Value} {cap : Array Value} {w : World} {fo : Operand} (ho : o.op = .call { callee := .value fo, args := xs.toArray, argTypes := ts }) (hf : a.eval fo = .func (.func f) #[] cap) (hx : xs.map a.eval = vs) (hc : callable P f = true) :
    (execOp a.eval o).run P w = .ok (.enter f (vs.toArray ++ cap)) w := by
  unfold execOp
  simp [ho, resolve, Deferred.ofValue, invoke, hf, hx, run_callable hc]
theorem evs {a : Act} (ha : FOk N Fr a) : ∀ {xs : List Operand} {vs : List Value}, xs.map (evF Fr) = vs.map some → xs.map a.eval = vs
  | [], [], _ => rfl
  | x :: xs, v :: vs, h => by
    simp only [List.map_cons, List.cons.injEq] at h ⊢
    exact ⟨ha.ev h.1, evs ha h.2⟩
  | [], _ :: _, h => by simp at h
  | _ :: _, [], h => by simp at h
theorem SyL.call {X : Type} (V : X → Value) (R : X → List RowF) {f : FuncId} {xs : List Operand} {ts : Array TypeId} {vs : List Value} {cap : Array Value} {fo : Operand} (ho : o.op = .call { callee := .value fo, args := xs.toArray, argTypes := ts }) (hf : evF Fr fo = some (.func (.func f) #[] cap)) (hx : xs.map (evF Fr) = vs.map some) (hc : callable P f = true)
    (hg : wantF ops Fr o = some true) {d : Nat} (hd : o.dst = some d) (hN : Nat.blt d N = true)
    (h : ∀ w, WOk w0 L Rs w → Calls P f (vs.toArray ++ cap) w fun e w' => ∃ x, e = .returned (V x) ∧ AllP (R x) w' ∧ Grow w w')
    (k : ∀ x, SyL P ops Q N w0 rest ((d, V x) :: Fr) L (R x ++ Rs)) : SyL P ops Q N w0 (o :: rest) Fr L Rs := by
  intro a w ha hw
  unfold wpList
  rw [if_pos (ha.want hg)]
  refine .inl ?_
  unfold Oper.wp
  rw [run_callF ho (ha.ev hf) (evs ha hx) hc, Oper.upon_enter]
  refine (h w hw).mono fun e w' ⟨x, he, hr, hb⟩ => ?_
  subst he
  show wpList P ops Q rest (a.put o.dst _) _
  rw [hd]
  exact k x _ w' (ha.put hN _) ((hw.grow hb).addRows hr)
theorem SyC.region {id : Nat} {l : List Oper} (h : SyL P l.toArray Q N w0 l Fr L Rs) : SyC P Q N w0 (.region id l.toArray false) Fr L Rs :=
  fun a w ha hw => wp_region_lit (h a w ha hw)
theorem SyC.seq {x y : Code} (h : SyC P (Exit.then (y.wp P Q) Q) N w0 x Fr L Rs) : SyC P Q N w0 (.seq x y) Fr L Rs := fun a w ha hw => wp_seq (h a w ha hw)
theorem SyC.skip (h : SyP Q N w0 .normal Fr L Rs) : SyC P Q N w0 .skip Fr L Rs := fun a w ha hw => wp_skip (h a w ha hw)
theorem SyC.exit {id : Nat} (h : SyP Q N w0 (.exit id) Fr L Rs) : SyC P Q N w0 (.exit id) Fr L Rs := fun a w ha hw => wp_exit (h a w ha hw)
theorem SyC.ret (h : SyP Q N w0 .ret Fr L Rs) : SyC P Q N w0 .ret Fr L Rs := fun a w ha hw => wp_ret (h a w ha hw)
theorem SyC.block {id : Nat} {c : Code} (h : SyC P (Exit.inBlock id Q) N w0 c Fr L Rs) : SyC P Q N w0 (.block id c) Fr L Rs := fun a w ha hw => wp_block (h a w ha hw)
theorem SyC.cond {c : Operand} {x y : Code} {b : Bool} (hc : evF Fr c = some (.bool b)) (hx : b = true → SyC P Q N w0 x Fr L Rs) (hy : b = false → SyC P Q N w0 y Fr L Rs) : SyC P Q N w0 (.cond c x y) Fr L Rs :=
  fun a w ha hw => wp_cond_split (ha.ev hc) (fun h => hx h a w ha hw) (fun h => hy h a w ha hw)
theorem SyC.condT {c : Operand} {x y : Code} (hc : evF Fr c = some (.bool true)) (hx : SyC P Q N w0 x Fr L Rs) : SyC P Q N w0 (.cond c x y) Fr L Rs :=
  fun a w ha hw => wp_cond_true (ha.ev hc) (hx a w ha hw)
theorem SyC.condF {c : Operand} {x y : Code} (hc : evF Fr c = some (.bool false)) (hx : SyC P Q N w0 y Fr L Rs) : SyC P Q N w0 (.cond c x y) Fr L Rs :=
  fun a w ha hw => wp_cond_false (ha.ev hc) (hx a w ha hw)
theorem SyP.seqN {y : Code} (h : SyC P Q N w0 y Fr L Rs) : SyP (Exit.then (y.wp P Q) Q) N w0 .normal Fr L Rs := h
theorem SyP.seqE {K : Act → World → Prop} {i : Nat} (h : SyP Q N w0 (.exit i) Fr L Rs) : SyP (Exit.then K Q) N w0 (.exit i) Fr L Rs := h
theorem SyP.seqR {K : Act → World → Prop} (h : SyP Q N w0 .ret Fr L Rs) : SyP (Exit.then K Q) N w0 .ret Fr L Rs := h
theorem SyP.blockN {i : Nat} (h : SyP Q N w0 .normal Fr L Rs) : SyP (Exit.inBlock i Q) N w0 .normal Fr L Rs := h
theorem SyP.blockE {i : Nat} (h : SyP Q N w0 .normal Fr L Rs) : SyP (Exit.inBlock i Q) N w0 (.exit i) Fr L Rs := fun a w ha hw => by
  show (if i = i then Q .normal a w else Q (.exit i) a w)
  rw [if_pos rfl]
  exact h a w ha hw
def ResV (P : Program) (Fr : List (Nat × Value)) (L : List Blk) : ResultVar → Value → Prop
  | .tmp t, v => lk Fr t = some v
  | .cell p t, v => ∃ (i : Nat) (b : Blk), lk Fr p = some (.pointer (some ⟨b.g, 0, none⟩)) ∧ L[i]? = some b ∧ aggT P t = some b.cs.length ∧ v = .agg b.cs.toArray
theorem resV_tmp {t : Tmp} {v : Value} (h : lk Fr t = some v) : ResV P Fr L (.tmp t) v := h
theorem resV_cell {p : Tmp} {t : TypeId} {i : Nat} {b : Blk} (h : lk Fr p = some (.pointer (some ⟨b.g, 0, none⟩))) (hb : L[i]? = some b) (ht : aggT P t = some b.cs.length) : ResV P Fr L (.cell p t) (.agg b.cs.toArray) := ⟨i, b, h, hb, ht, rfl⟩
inductive ResVs (P : Program) (Fr : List (Nat × Value)) (L : List Blk) : List ResultVar → List Value → Prop
  | nil : ResVs P Fr L [] []
  | cons {r : ResultVar} {v : Value} {rs : List ResultVar} {vs : List Value} : ResV P Fr L r v → ResVs P Fr L rs vs → ResVs P Fr L (r :: rs) (v :: vs)
theorem run_res {a : Act} {w : World} (ha : FOk N Fr a) (hw : WOk w0 L Rs w) (f : ResultVar → Sem Value) (hf1 : ∀ t, f (.tmp t) = pure (a.tmps.getD t undef)) (hf2 : ∀ p t, f (.cell p t) = (do loadVar t (← asAddr (a.tmps.getD p undef)))) {rs : List ResultVar} {vs : List Value} (h : ResVs P Fr L rs vs) : (rs.mapM f).run P w = .ok vs w := by
  induction h with
  | nil => rfl
  | @cons r v rs vs hr _ ih =>
    have h1 : (f r).run P w = .ok v w := by
      cases r with
      | tmp t =>
        have h2 : a.tmps.getD t undef = v := ha.fr t v hr
        rw [hf1, h2]
        rfl
      | cell p t =>
        obtain ⟨i, b, h2, h3, h4, rfl⟩ := hr
        have h5 : a.tmps.getD p undef = _ := ha.fr p _ h2
        rw [hf2, h5]
        have hblk := (hw.blk b (List.mem_of_getElem? h3)).2
        have hl : (loadCells ⟨b.g, 0, none⟩ b.cs.length).run P w = .ok b.cs.toArray w :=
          run_loadCells_list (P := P) w ⟨b.g, 0, none⟩ b.cs (fun j v hv' => by rw [add_off, cell_blk hblk, Nat.zero_add]; exact hv')
        have h6 := run_isAgg h4 w
        simp [asAddr, loadVar, Sem.run_bind, h6.1, h6.2, hl]
    rw [List.mapM_cons, Sem.run_bind, h1, Result.andThen_ok, Sem.run_bind, ih]
    rfl
theorem run_resA {a : Act} {w : World} (ha : FOk N Fr a) (hw : WOk w0 L Rs w) {f : ResultVar → Sem Value} {rs : List ResultVar} {vs : List Value} (h : ResVs P Fr L rs vs) (hf1 : ∀ t, f (.tmp t) = pure (a.tmps.getD t undef)) (hf2 : ∀ p t, f (.cell p t) = (do loadVar t (← asAddr (a.tmps.getD p undef)))) : (rs.toArray.mapM f).run P w = .ok vs.toArray w := by
  rw [List.mapM_toArray]
  simp [run_res ha hw f hf1 hf2 h]
def packR (vs : List Value) : Value := match vs with
  | [v] => v
  | _ => .tuple vs.toArray
theorem SyP.ret {fn : Func} {R : Ending → World → Prop} {rs : List ResultVar} {vs : List Value} (hrs : fn.results = rs.toArray) (hv : ResVs P Fr L rs vs) (h : ∀ w, WOk w0 L Rs w → R (.returned (packR vs)) w) : SyP (bodyPost P fn R) N w0 .ret Fr L Rs := by
  intro a w ha hw
  refine bodyPost_ret (v := packR vs) ?_ ha.df (h w hw)
  unfold results
  rw [hrs]
  rw [Sem.run_bind, run_resA ha hw hv]
  · rw [Result.andThen_ok]
    match vs with
    | [] => rfl
    | [v] => rfl
    | v :: u :: vs => rfl
  · intro t; rfl
  · intro p t; rfl
theorem SyC.calls {f : FuncId} {fn : Func} {c : Code} {args : List Value} {R : Ending → World → Prop} (hf : P.funcs[f]? = some fn) (hb : fn.body = some c) (hn : fn.ntmps = N) (hl : args.length ≤ N) {w : World} (Fr : List (Nat × Value)) (hF : ∀ t v, lk Fr t = some v → args[t]? = some v) (h : SyC P (bodyPost P fn R) N w c Fr [] []) : Calls P f args.toArray w R := by
  refine calls_of_wp hf hb (h _ w ⟨by simp; omega, rfl, fun t v ht => ?_⟩ ⟨Below.refl _ _, (fun _ h => by cases h), List.Pairwise.nil, (fun _ h => by cases h)⟩)
  have h1 := hF t v ht
  have h2 := (List.getElem?_eq_some_iff.1 h1).1
  have h3 : args[t] = v := by rw [List.getElem?_eq_getElem h2] at h1; exact Option.some.inj h1
  simp [Act.eval, Array.getElem?_append, h2, h3]
theorem SyL.bool {d : Nat} {b : Bool} (k : ∀ c, b = c → SyL P ops Q N w0 rest ((d, .bool c) :: Fr) L Rs) : SyL P ops Q N w0 rest ((d, .bool b) :: Fr) L Rs := k b rfl
theorem SyL.boolAt {d : Nat} {b : Bool} (hl : lk Fr d = some (.bool b)) (k : ∀ c, b = c → SyL P ops Q N w0 rest ((d, .bool c) :: Fr) L Rs) : SyL P ops Q N w0 rest Fr L Rs :=
  fun a w ha hw => k b rfl a w ⟨ha.sz, ha.df, fun t v ht => by
    simp only [lk] at ht
    cases htd : Nat.beq t d with
    | true =>
      rw [htd] at ht
      have h1 := Nat.eq_of_beq_eq_true htd
      subst h1
      exact ha.fr t v (hl.trans ht)
    | false => rw [htd] at ht; exact ha.fr t v ht⟩ hw
theorem SyC.boolAt {cd : Code} {d : Nat} {b : Bool} (hl : lk Fr d = some (.bool b)) (k : ∀ c, b = c → SyC P Q N w0 cd ((d, .bool c) :: Fr) L Rs) : SyC P Q N w0 cd Fr L Rs :=
  fun a w ha hw => k b rfl a w ⟨ha.sz, ha.df, fun t v ht => by
    simp only [lk] at ht
    cases htd : Nat.beq t d with
    | true =>
      rw [htd] at ht
      have h1 := Nat.eq_of_beq_eq_true htd
      subst h1
      exact ha.fr t v (hl.trans ht)
    | false => rw [htd] at ht; exact ha.fr t v ht⟩ hw
theorem iteT {α : Type} {b : Bool} {A B r : α} (hb : b = true) (h : (if b = true then A else B) = r) : A = r := by rw [← h, if_pos hb]
theorem iteF {α : Type} {b : Bool} {A B r : α} (hb : b = false) (h : (if b = true then A else B) = r) : B = r := by rw [← h, if_neg (by rw [hb]; decide)]
theorem bindS {α β : Type} {x : Option α} {f : α → Option β} {r : β} (h : x.bind f = some r) : ∃ t, x = some t ∧ f t = some r := Option.bind_eq_some_iff.mp h
def SyM (P : Program) (ops : Array Oper) (R : Reg) (xs : Nat → Gh) (N : Nat) (E : Act → World → Prop) (i : Nat) (rest : List Oper) (Fr : List (Nat × Value)) : Prop :=
  ∀ a, FOk N Fr a → MonoSeq P ops R xs E i rest a
variable {R : Reg} {xs : Nat → Gh} {E : Act → World → Prop} {i : Nat}
theorem SyM.f {c : Value} {d : Nat} (h : ∀ a w, FOk N Fr a → (execOp a.eval o).run P w = .ok (.value c) w) (hm : R.F.lookup i = none) (hg : wantF ops Fr o = some true) (hd : o.dst = some d) (hN : Nat.blt d N = true) (k : SyM P ops R xs N E (i + 1) rest ((d, c) :: Fr)) : SyM P ops R xs N E i (o :: rest) Fr := by
  intro a ha
  unfold MonoSeq
  rw [hm]
  refine ⟨c, fun w _ => .inl ⟨ha.want hg, h a w ha⟩, ?_⟩
  rw [hd]
  exact k _ (ha.put hN c)
theorem f_extract {x : Operand} {j : Nat} {vs : List Value} {v : Value} (ho : o.op = .extract x j) (hx : evF Fr x = some (.tuple vs.toArray)) (hv : vs[j]? = some v) (a : Act) (w : World) (ha : FOk N Fr a) : (execOp a.eval o).run P w = .ok (.value v) w := by
  unfold execOp
  simp only [ho, ha.ev hx, Instr.extract]
  simp [hv]
theorem SyM.x {c : Value} {d : Nat} {Rs' : List RowF} (hW : ∀ w, R.W i w → WOk w0 L Rs' w) (h : Xrun P N w0 Fr L Rs' o c) (hm : R.F.lookup i = none) (hfl : R.fl.contains i = false) (hg : wantF ops Fr o = some true) (hd : o.dst = some d) (hN : Nat.blt d N = true) (k : SyM P ops R xs N E (i + 1) rest ((d, c) :: Fr)) : SyM P ops R xs N E i (o :: rest) Fr := by
  intro a ha
  unfold MonoSeq
  rw [hm]
  refine ⟨c, fun w hw => .inl ⟨ha.want hg, h a w ha (hW w (hw.resolve_left (by rw [hfl]; decide)).1)⟩, ?_⟩
  rw [hd]
  exact k _ (ha.put hN c)
theorem SyM.skip {d : Nat} (hm : R.F.lookup i = none) (hg : wantF ops Fr o = some false) (hd : o.dst = some d) (hN : Nat.blt d N = true) (k : SyM P ops R xs N E (i + 1) rest ((d, undef) :: Fr)) : SyM P ops R xs N E i (o :: rest) Fr := by
  intro a ha
  unfold MonoSeq
  rw [hm]
  refine ⟨undef, fun w hw => .inr ⟨ha.want hg, rfl⟩, ?_⟩
  rw [hd]
  exact k _ (ha.put hN _)
theorem SyM.loud {m : Mk} {d : Nat} (hm : R.F.lookup i = some m) (hd : o.dst = some d) (hN : Nat.blt d N = true) (h : ∀ a w, FOk N Fr a → R.W i w → R.H xs i w → LoudAt P ops a w o (R.D i) m) (k : SyM P ops R xs N E (i + 1) rest ((d, m.V (xs i)) :: Fr)) : SyM P ops R xs N E i (o :: rest) Fr := by
  intro a ha
  unfold MonoSeq
  rw [hm]
  refine ⟨fun w hw hh => h a w ha hw hh, ?_⟩
  rw [hd]
  exact k _ (ha.put hN _)
theorem SyM.nil (h : ∀ a w, FOk N Fr a → (if R.z = none then R.Wf w else R.Wt w) → HoldsL R.F xs w (R.z.isSome) (R.F.map (·.1)) → E a w) : SyM P ops R xs N E i [] Fr := fun a ha w hw hh => h a w ha hw hh
theorem loud_of_run {a : Act} {w w' : World} {D : World → World → Prop} {m : Mk} {x : Gh} (hg : Region.wanted o (yielded ops a.tmps) = true) (hr : (execOp a.eval o).run P w = .ok (.value (m.V x)) w') (hD : D w w') (hp : m.p x w') : LoudAt P ops a w o D m := by
  refine ⟨hg, fun K hK => ?_⟩
  unfold Oper.wp
  rw [hr]
  exact hK x w' hD hp
theorem loud_call {a : Act} {w : World} {D : World → World → Prop} {m : Mk} {f : FuncId} {xs : List Operand} {ts : Array TypeId} {vs : List Value} {cap : Array Value} {fo : Operand} (ha : FOk N Fr a) (ho : o.op = .call { callee := .value fo, args := xs.toArray, argTypes := ts }) (hf : evF Fr fo = some (.func (.func f) #[] cap)) (hx : xs.map (evF Fr) = vs.map some) (hc : callable P f = true) (hg : wantF ops Fr o = some true)
    (h : Calls P f (vs.toArray ++ cap) w fun e w' => ∃ x, e = .returned (m.V x) ∧ m.p x w' ∧ D w w') : LoudAt P ops a w o D m := by
  refine ⟨ha.want hg, fun K hK => ?_⟩
  unfold Oper.wp
  rw [run_callF ho (ha.ev hf) (evs ha hx) hc, Oper.upon_enter]
  refine h.mono fun e w' ⟨x, he, hp, hD⟩ => ?_
  subst he
  exact hK x w' hD hp
def mkP (C : Gh → Prop) (Rx : Gh → List RowF) (x : Gh) (w : World) : Prop := C x ∧ AllP (Rx x) w
theorem allP_grow {rs : List RowF} {w w' : World} (h : AllP rs w) (hg : Grow w w') : AllP rs w' := fun r hr => r.keep _ _ (h r hr) fun k c q _ hk => hg.block k (Array.getElem?_eq_some_iff.1 hk).1
def pBox (w0 wr : World) (cs : List Value) (t : TypeId) (x : Gh) (w : World) : Prop := w0.heap.size ≤ x.n 0 ∧ w.heap[x.n 0]? = some (.cells cs.toArray t (0, 0)) ∧ wr.heap.size ≤ x.n 0
def mBox (w0 wr : World) (cs : List Value) (t : TypeId) : Mk := .loud true (fun x => .pointer (some ⟨x.n 0, 0, none⟩)) (pBox w0 wr cs t)
def De (e : TypeId) (lo : Nat) (w0 w w' : World) : Prop := Below w0.heap.size w w' ∧ ∀ (k : Nat) (c : Array Value) (q : Nat) (f : Nat × Nat), (q ≠ e ∨ k < lo) → w.heap[k]? = some (Obj.cells c q f) → w'.heap[k]? = w.heap[k]?
def noD (w w' : World) : Prop := False
theorem stable_box {D : World → World → Prop} {wr : World} {cs : List Value} {t : TypeId} (hD : ∀ (w w' : World) (k : Nat), D w w' → w.heap[k]? = some (Obj.cells cs.toArray t (0, 0)) → w'.heap[k]? = w.heap[k]?) : (mBox w0 wr cs t).Stable D :=
  ⟨fun x w w' ⟨h1, h2, h3⟩ hg => ⟨h1, (hg.block _ (Array.getElem?_eq_some_iff.1 h2).1).trans h2, h3⟩, fun _ x w w' ⟨h1, h2, h3⟩ hg => ⟨h1, (hD _ _ _ hg h2).trans h2, h3⟩⟩
theorem stable_boxE {wr : World} {cs : List Value} {t e : TypeId} {lo : Nat} (ht : (t == e) = false) : (mBox w0 wr cs t).Stable (De e lo w0) := stable_box fun _ _ k h hk => h.2 k _ t _ (.inl (by simpa using ht)) hk
theorem stable_call {D : World → World → Prop} {f : Bool} {V : Gh → Value} {C : Gh → Prop} {Rx : Gh → List RowF} (hD : f = true → ∀ x w w', D w w' → AllP (Rx x) w → AllP (Rx x) w') : (Mk.loud f V (mkP C Rx)).Stable D :=
  ⟨fun x w w' ⟨h1, h2⟩ hg => ⟨h1, allP_grow h2 hg⟩, fun hf x w w' ⟨h1, h2⟩ hg => ⟨h1, hD hf x w w' hg h2⟩⟩
theorem loud_alloc {a : Act} {w wr : World} {t : TypeId} {cs : List Value} (ha : FOk N Fr a) (hw : WOk w0 L Rs w) (ho : o.op = .alloc t) (hz : zeroT P t = some cs.toArray) (hg : wantF ops Fr o = some true) (hwr : wr.heap.size ≤ w.heap.size) : LoudAt P ops a w o Grow (mBox w0 wr cs t) := by
  have hrun : (execOp a.eval o).run P w = .ok (.value (.pointer (some ⟨w.heap.size, 0, none⟩))) (w.alloc (.cells cs.toArray t)) := by
    unfold execOp
    unfold zeroT at hz
    cases hi : P.info? t with
    | none => rw [hi] at hz; cases hz
    | some i =>
      rw [hi, Option.bind_some] at hz
      cases hzz : i.zero with
      | none => rw [hzz] at hz; cases hz
      | some z =>
        rw [hzz] at hz
        have hc : z.cells = cs.toArray := by simpa using hz
        simp only [ho, Instr.alloc]
        simp [zeroValue, typeInfo, hi, hzz, newVar, run_newRow, Sem.run_bind, hc]
  refine loud_of_run (x := ⟨fun _ => undef, fun _ => w.heap.size⟩) (ha.want hg) hrun ((Below.refl _ _).alloc (Nat.le_refl _) _) ⟨hw.below.size, ?_, hwr⟩
  show (w.heap.push _)[w.heap.size]? = _
  simp
def NoP (Q : Exit → Act → World → Prop) : Exit → Act → World → Prop
  | .panic _, _, _ => False
  | e, a, w => Q e a w
theorem NoP.imp {Q : Exit → Act → World → Prop} : ∀ (e : Exit) (a : Act) (w : World), NoP Q e a w → Q e a w := fun e a w h => by
  cases e <;> first | exact h | exact (h : False).elim
theorem SyP.np (h : SyP Q N w0 .normal Fr L Rs) : SyP (NoP Q) N w0 .normal Fr L Rs := h
theorem SyC.any {id : Nat} {l : List Oper} (n : Nat) (ks fl : List Nat) (clo : List (List Nat)) (F : World → List (Nat × Mk)) (hk : ∀ w, (F w).map (·.1) = ks) (hm : P.follows .mixedOrders = true) (hB : Region.monoB .any l.toArray ks fl clo N n = true) (hF : ∀ w, AllStable noD (fun _ => true) (F w))
    (h : ∀ wr xs, WOk w0 L Rs wr → SyM P l.toArray ⟨F wr, fl, clo, none, fun w => WOk w0 L Rs w ∧ wr.heap.size ≤ w.heap.size, fun _ => True, noD⟩ xs N (fun a w => wpList P l.toArray (NoP Q) (l.drop n) a w) 0 (l.take n) Fr) : SyC P Q N w0 (.region id l.toArray true) Fr L Rs := by
  intro a w ha hw
  refine Code.wp_mono NoP.imp ?_
  exact wp_region_mono n ⟨F w, fl, clo, none, fun w' => WOk w0 L Rs w' ∧ w.heap.size ≤ w'.heap.size, fun _ => True, noD⟩ hm (by rw [ha.sz]; show Region.monoB .any l.toArray ((F w).map (·.1)) fl clo N n = true; rw [hk]; exact hB) (fun _ _ _ _ _ h => h.elim) rfl (hF w) (fun w1 w2 h hg => ⟨h.1.grow hg, Nat.le_trans h.2 (Below.size hg)⟩) (fun _ _ _ _ => trivial) (fun _ _ _ h => h.elim) (fun _ _ => trivial) ⟨hw, Nat.le_refl _⟩ (fun xs => h w xs hw a ha)
theorem WOk.de {Rt : List RowF} {e : TypeId} {lo : Nat} {w w' : World} (h : WOk w0 L Rs w) (hL : ∀ b ∈ L, b.t ≠ e ∨ b.g < lo) (hR : (Rt.all fun r => !r.es.contains e) = true) (hs : ∀ r ∈ Rt, r ∈ Rs) (hd : De e lo w0 w w') : WOk w0 L Rt w' := by
  refine ⟨h.below.trans hd.1, fun b hb => ⟨(h.blk b hb).1, (hd.2 b.g _ b.t _ (hL b hb) (h.blk b hb).2).trans (h.blk b hb).2⟩, h.nd, fun r hr => r.keep _ _ (h.row r (hs r hr)) fun k c q hq hk => hd.2 k c q _ (.inl ?_) hk⟩
  rintro rfl
  have := List.all_eq_true.1 hR r hr
  simp [hq] at this
theorem SyC.anyZ0 {id : Nat} {l : List Oper} {Rt : List RowF} (lo : World → Nat) (n : Nat) (z e : Nat) (ks fl : List Nat) (clo : List (List Nat)) (F : World → List (Nat × Mk)) (hk : ∀ w, (F w).map (·.1) = ks) (hm : P.follows .mixedOrders = true) (hB : Region.monoB .any l.toArray ks fl clo N n = true) (hz : ∀ w, ((ks.contains z) && ((F w).lookup z).isSome) = true)
    (hL : ∀ w, WOk w0 L Rs w → ∀ b ∈ L, b.t ≠ e ∨ b.g < lo w) (hR : (Rt.all fun r => !r.es.contains e) = true) (hs : ∀ r ∈ Rt, r ∈ Rs) (hF : ∀ w, AllStable (De e (lo w) w0) (fun j => j == z || (clo.getD j []).contains z) (F w))
    (h : ∀ wr xs, WOk w0 L Rs wr → SyM P l.toArray ⟨F wr, fl, clo, some z, fun w => WOk w0 L Rs w ∧ wr.heap.size ≤ w.heap.size, fun w => WOk w0 L Rt w ∧ wr.heap.size ≤ w.heap.size, De e (lo wr) w0⟩ xs N (fun a w => wpList P l.toArray (NoP Q) (l.drop n) a w) 0 (l.take n) Fr) : SyC P Q N w0 (.region id l.toArray true) Fr L Rs := by
  intro a w ha hw
  have hft : ∀ w1, WOk w0 L Rs w1 → WOk w0 L Rt w1 := fun w1 h1 => ⟨h1.below, h1.blk, h1.nd, fun r hr => h1.row r (hs r hr)⟩
  refine Code.wp_mono NoP.imp ?_
  exact wp_region_mono n ⟨F w, fl, clo, some z, fun w' => WOk w0 L Rs w' ∧ w.heap.size ≤ w'.heap.size, fun w' => WOk w0 L Rt w' ∧ w.heap.size ≤ w'.heap.size, De e (lo w) w0⟩ hm (by rw [ha.sz]; show Region.monoB .any l.toArray ((F w).map (·.1)) fl clo N n = true; rw [hk]; exact hB) (fun _ _ _ _ _ h => h.elim)
    (by show ((((F w).map (·.1)).contains z) && ((F w).lookup z).isSome) = true; rw [hk]; exact hz w) (hF w) (fun w1 w2 h hg => ⟨h.1.grow hg, Nat.le_trans h.2 (Below.size hg)⟩) (fun w1 w2 h hg => ⟨h.1.grow hg, Nat.le_trans h.2 (Below.size hg)⟩) (fun w1 w2 h hd => ⟨h.1.de (hL w hw) hR hs hd, Nat.le_trans h.2 hd.1.size⟩) (fun w1 h1 => ⟨hft w1 h1.1, h1.2⟩) ⟨hw, Nat.le_refl _⟩ (fun xs => h w xs hw a ha)
theorem SyC.anyZ {id : Nat} {l : List Oper} {Rt : List RowF} (n : Nat) (z e : Nat) (ks fl : List Nat) (clo : List (List Nat)) (F : World → List (Nat × Mk)) (hk : ∀ w, (F w).map (·.1) = ks) (hm : P.follows .mixedOrders = true) (hB : Region.monoB .any l.toArray ks fl clo N n = true) (hz : ∀ w, ((ks.contains z) && ((F w).lookup z).isSome) = true)
    (hR : (Rt.all fun r => !r.es.contains e) = true) (hs : ∀ r ∈ Rt, r ∈ Rs) (hF : ∀ w, AllStable (De e w.heap.size w0) (fun j => j == z || (clo.getD j []).contains z) (F w))
    (h : ∀ wr xs, WOk w0 L Rs wr → SyM P l.toArray ⟨F wr, fl, clo, some z, fun w => WOk w0 L Rs w ∧ wr.heap.size ≤ w.heap.size, fun w => WOk w0 L Rt w ∧ wr.heap.size ≤ w.heap.size, De e wr.heap.size w0⟩ xs N (fun a w => wpList P l.toArray (NoP Q) (l.drop n) a w) 0 (l.take n) Fr) : SyC P Q N w0 (.region id l.toArray true) Fr L Rs :=
  SyC.anyZ0 (fun w => w.heap.size) n z e ks fl clo F hk hm hB hz (fun w hw b hb => .inr (Array.getElem?_eq_some_iff.1 (hw.blk b hb).2).1) hR hs hF h
theorem SyC.anyT {id : Nat} {l : List Oper} {Rt : List RowF} (n : Nat) (z e : Nat) (ks fl : List Nat) (clo : List (List Nat)) (F : World → List (Nat × Mk)) (hk : ∀ w, (F w).map (·.1) = ks) (hm : P.follows .mixedOrders = true) (hB : Region.monoB .any l.toArray ks fl clo N n = true) (hz : ∀ w, ((ks.contains z) && ((F w).lookup z).isSome) = true)
    (hL : (L.all fun b => !(b.t == e)) = true) (hR : (Rt.all fun r => !r.es.contains e) = true) (hs : ∀ r ∈ Rt, r ∈ Rs) (hF : ∀ w, AllStable (De e w0.heap.size w0) (fun j => j == z || (clo.getD j []).contains z) (F w))
    (h : ∀ wr xs, WOk w0 L Rs wr → SyM P l.toArray ⟨F wr, fl, clo, some z, fun w => WOk w0 L Rs w ∧ wr.heap.size ≤ w.heap.size, fun w => WOk w0 L Rt w ∧ wr.heap.size ≤ w.heap.size, De e w0.heap.size w0⟩ xs N (fun a w => wpList P l.toArray (NoP Q) (l.drop n) a w) 0 (l.take n) Fr) : SyC P Q N w0 (.region id l.toArray true) Fr L Rs :=
  SyC.anyZ0 (fun _ => w0.heap.size) n z e ks fl clo F hk hm hB hz (fun w hw b hb => .inl (by
    have := List.all_eq_true.1 hL b hb
    simpa using this)) hR hs hF h
theorem WOk.r {α : Type} {w : World} {d : Kd α} {e : Nat} {v : Value} {l : List α} (h : WOk w0 L Rs w) (i : Nat) (hi : Rs[i]? = some (rowF d e w0.heap.size v l)) : d.R e w w0.heap.size (fun _ => True) v l := h.row _ (List.mem_of_getElem? hi)
theorem WOk.rd {α : Type} {w : World} {d : Kd α} {e : Nat} {A : Option Addr} {n c : Nat} {l : List α} (h : WOk w0 L Rs w) (i : Nat) (hi : Rs[i]? = some (rowF d e w0.heap.size (.slice A n c) l)) : d.C w A l.length l := (Kd.R_reads' (h.r i hi)).2.2
theorem WOk.rl {α : Type} {w : World} {d : Kd α} {e : Nat} {A : Option Addr} {c : Nat} {l : List α} (h : WOk w0 L Rs w) (i : Nat) (hi : Rs[i]? = some (rowF d e w0.heap.size (.slice A l.length c) l)) : l.length ≤ c := (Kd.R_reads' (h.r i hi)).2.1
theorem SyL.of {a : Act} {w : World} (ha : FOk N Fr a) (hw : WOk w0 L Rs w) (k : SyL P ops Q N w0 rest Fr L Rs) : wpList P ops Q rest a w := k a w ha hw
theorem SyL.call0 {v : Value} {f : FuncId} {xs : List Operand} {ts : Array TypeId} {vs : List Value} {d : Nat} (ho : o.op = .call { callee := .value (.func f), args := xs.toArray, argTypes := ts }) (hx : xs.map (evF Fr) = vs.map some) (hc : callable P f = true)
    (hg : wantF ops Fr o = some true) (hd : o.dst = some d) (hN : Nat.blt d N = true) (h : ∀ w, WOk w0 L Rs w → Calls P f vs.toArray w fun e w' => e = .returned v ∧ Below w.heap.size w w') (k : SyL P ops Q N w0 rest ((d, v) :: Fr) L Rs) : SyL P ops Q N w0 (o :: rest) Fr L Rs :=
  SyL.call (X := Unit) (fun _ => v) (fun _ => []) (cap := #[]) ho rfl hx hc hg hd hN (fun w hw => by rw [Array.append_empty]; exact (h w hw).mono fun e w' ⟨h1, h2⟩ => ⟨(), h1, (fun r hr => by cases hr), h2⟩) fun _ => k
theorem SyL.callD {v : Value} {f : FuncId} {xs : List Operand} {ts : Array TypeId} {vs : List Value} {d : Nat} (ho : o.op = .call { callee := .value (.func f), args := xs.toArray, argTypes := ts }) (hx : xs.map (evF Fr) = vs.map some) (hc : callable P f = true)
    (hg : wantF ops Fr o = some true) (hd : o.dst = some d) (hN : Nat.blt d N = true) (h : ∀ w, WOk w0 L Rs w → Calls P f vs.toArray w fun e w' => e = .returned v ∧ Drawn0 w w') (k : SyL P ops Q N w0 rest ((d, v) :: Fr) L Rs) : SyL P ops Q N w0 (o :: rest) Fr L Rs :=
  SyL.call0 ho hx hc hg hd hN (fun w hw => (h w hw).mono fun e w' ⟨h1, h2⟩ => ⟨h1, h2.below⟩) k
theorem slice_of {α : Type} {d : Kd α} {e base : Nat} {w : World} {v : Value} {l : List α} (h : d.R e w base (fun _ => True) v l) : ∃ y : Option Addr × Nat, v = .slice y.1 l.length y.2 := by
  obtain ⟨A, c, hv⟩ := Kd.R_slice h
  exact ⟨(A, c), hv⟩
theorem SyL.call1 {α : Type} {V : Value → Value} {kd : Kd α} {e : Nat} {l : List α} {f : FuncId} {xs : List Operand} {ts : Array TypeId} {vs : List Value} {d : Nat} (ho : o.op = .call { callee := .value (.func f), args := xs.toArray, argTypes := ts }) (hx : xs.map (evF Fr) = vs.map some) (hc : callable P f = true)
    (hg : wantF ops Fr o = some true) (hd : o.dst = some d) (hN : Nat.blt d N = true) (h : ∀ w, WOk w0 L Rs w → Calls P f vs.toArray w fun e' w' => ∃ v, e' = .returned (V v) ∧ kd.R e w' w.heap.size (fun _ => True) v l ∧ Below w.heap.size w w')
    (k : ∀ A c, SyL P ops Q N w0 rest ((d, V (.slice A l.length c)) :: Fr) L (rowF kd e w0.heap.size (.slice A l.length c) l :: Rs)) : SyL P ops Q N w0 (o :: rest) Fr L Rs :=
  SyL.call (X := Option Addr × Nat) (fun y => V (.slice y.1 l.length y.2)) (fun y => [rowF kd e w0.heap.size (.slice y.1 l.length y.2) l]) (cap := #[]) ho rfl hx hc hg hd hN (fun w hw => by
    rw [Array.append_empty]
    refine (h w hw).mono fun e' w' ⟨v, h1, h2, h3⟩ => ?_
    obtain ⟨y, rfl⟩ := slice_of h2
    refine ⟨y, h1, fun r hr => ?_, h3⟩
    rw [List.mem_singleton.1 hr]
    exact Kd.R_lower h2 hw.below.size) fun y => k y.1 y.2
theorem x_loadW {x : Operand} {t g i : Nat} {b : Blk} (ho : o.op = .load t x) (hx : evF Fr x = some (.pointer (some ⟨g, 0, none⟩))) (hb : L[i]? = some b) (hbg : b.g = g) (ht : aggT P t = some b.cs.length) : Xrun P N w0 Fr L Rs o (.agg b.cs.toArray) :=
  x_loadA ho hx hb hbg ht (by simp) rfl
theorem SyL.storeS {t : TypeId} {x y : Operand} {g off n i : Nat} {b : Blk} {v : Value} {vs cs' : List Value} (ho : o.op = .store t x y) (hx : evF Fr x = some (.pointer (some ⟨g, off, none⟩))) (hy : evF Fr y = some v) (hb : L[i]? = some b) (hbg : b.g = g)
    (hc : v.cells = vs.toArray) (ht : sizeT P t = some n) (hn : Nat.beq vs.length n = true) (h1 : vs.all (·.oneCell') = true) (hl : Nat.ble (off + n) b.cs.length = true) (hs : splice b.cs off vs = cs') (hT : (Rs.all fun r => !r.es.contains b.t) = true) (hg : wantF ops Fr o = some true) (hd : o.dst = none)
    (k : SyL P ops Q N w0 rest Fr (L.set i ⟨g, cs', b.t⟩) Rs) : SyL P ops Q N w0 (o :: rest) Fr L Rs :=
  SyL.store ho hx hy hb hbg hc ht (Nat.eq_of_beq_eq_true hn) h1 (Nat.le_of_ble_eq_true hl) hs (fun r hr => by
    have := List.all_eq_true.1 hT r hr
    simpa using this) hg hd k
theorem SyL.storeW {t : TypeId} {x y : Operand} {g i : Nat} {b : Blk} {v : Value} {vs : List Value} (ho : o.op = .store t x y) (hx : evF Fr x = some (.pointer (some ⟨g, 0, none⟩))) (hy : evF Fr y = some v) (hb : L[i]? = some b) (hbg : b.g = g)
    (hc : v.cells = vs.toArray) (ht : sizeT P t = some b.cs.length) (hn : Nat.beq vs.length b.cs.length = true) (h1 : vs.all (·.oneCell') = true) (hT : (Rs.all fun r => !r.es.contains b.t) = true) (hg : wantF ops Fr o = some true) (hd : o.dst = none)
    (k : SyL P ops Q N w0 rest Fr (L.set i ⟨g, vs, b.t⟩) Rs) : SyL P ops Q N w0 (o :: rest) Fr L Rs :=
  SyL.storeS ho hx hy hb hbg hc ht hn h1 (by rw [Nat.zero_add]; exact Nat.ble_eq_true_of_le (Nat.le_refl _)) (by
    unfold splice
    have : b.cs.drop (0 + vs.length) = [] := List.drop_eq_nil_of_le (by have := Nat.eq_of_beq_eq_true hn; omega)
    rw [this]
    simp) hT hg hd k
def argsF : Nat → List Value → List (Nat × Value)
  | _, [] => []
  | i, v :: vs => (i, v) :: argsF (i + 1) vs
theorem argsF_get : ∀ (vs : List Value) (i t : Nat) (v : Value), lk (argsF i vs) t = some v → i ≤ t ∧ vs[t - i]? = some v
  | u :: vs, i, t, v, h => by
    simp only [argsF, lk] at h
    cases hb : Nat.beq t i with
    | true =>
      rw [hb] at h
      have h1 := Nat.eq_of_beq_eq_true hb
      subst h1
      have h2 : u = v := Option.some.inj h
      subst h2
      exact ⟨Nat.le_refl _, by simp⟩
    | false =>
      rw [hb] at h
      obtain ⟨h1, h2⟩ := argsF_get vs (i + 1) t v h
      refine ⟨by omega, ?_⟩
      rw [show t - i = (t - (i + 1)) + 1 by omega]
      simpa using h2
theorem SyC.start {f : FuncId} {fn : Func} {c : Code} {args : List Value} {R : Ending → World → Prop} (hf : P.funcs[f]? = some fn) (hb : fn.body = some c) (hn : fn.ntmps = N) (hl : Nat.ble args.length N = true) {w : World} (h : SyC P (bodyPost P fn R) N w c (argsF 0 args) [] []) : Calls P f args.toArray w R :=
  SyC.calls hf hb hn (Nat.le_of_ble_eq_true hl) (argsF 0 args) (fun t v ht => by simpa using (argsF_get args 0 t v ht).2) h
def mRow {α : Type} (firm : Bool) (V : Value → Value) (d : Kd α) (e base : Nat) (l : List α) : Mk := .loud firm (fun x => V (x.v 0)) (mkP (fun x => ∃ A c, x.v 0 = .slice A l.length c) (fun x => [rowF d e base (x.v 0) l]))
def mRow2 {α β : Type} (V : Value → Value → Value) (d : Kd α) (e : Nat) (l : List α) (d2 : Kd β) (e2 : Nat) (l2 : List β) (w0 : World) : Mk := .loud true (fun x => V (x.v 0) (x.v 1)) (mkP (fun x => (∃ A c, x.v 0 = .slice A l.length c) ∧ ∃ A c, x.v 1 = .slice A l2.length c) (fun x => [rowF d e w0.heap.size (x.v 0) l, rowF d2 e2 w0.heap.size (x.v 1) l2]))
theorem mBox_V (wr : World) (cs : List Value) (t : TypeId) (x : Gh) : (mBox w0 wr cs t).V x = .pointer (some ⟨x.n 0, 0, none⟩) := rfl
theorem mRow_V {α : Type} (f : Bool) (V : Value → Value) (d : Kd α) (e base : Nat) (l : List α) (x : Gh) : (mRow f V d e base l).V x = V (x.v 0) := rfl
theorem mRow2_V {α β : Type} (V : Value → Value → Value) (d : Kd α) (e : Nat) (l : List α) (d2 : Kd β) (e2 : Nat) (l2 : List β) (w0 : World) (x : Gh) : (mRow2 V d e l d2 e2 l2 w0).V x = V (x.v 0) (x.v 1) := rfl
theorem known_V (c : Value) (x : Gh) : (Mk.known c).V x = c := rfl
theorem loud_call1 {α : Type} {a : Act} {w : World} {V : Value → Value} {kd : Kd α} {e base : Nat} {l : List α} {fm : Bool} {f : FuncId} {xs : List Operand} {ts : Array TypeId} {vs : List Value} (ha : FOk N Fr a) (hw : WOk w0 L Rs w) (ho : o.op = .call { callee := .value (.func f), args := xs.toArray, argTypes := ts }) (hx : xs.map (evF Fr) = vs.map some) (hc : callable P f = true) (hg : wantF ops Fr o = some true)
    (h : Calls P f vs.toArray w fun e' w' => ∃ v, e' = .returned (V v) ∧ kd.R e w' w.heap.size (fun _ => True) v l ∧ Below w.heap.size w w') (hbase : base ≤ w.heap.size) : LoudAt P ops a w o Grow (mRow fm V kd e base l) :=
  loud_call (cap := #[]) ha ho rfl hx hc hg (by
    rw [Array.append_empty]
    refine h.mono fun e' w' ⟨v, h1, h2, h3⟩ => ?_
    obtain ⟨y, hy⟩ := slice_of h2
    refine ⟨⟨fun _ => v, fun _ => 0⟩, h1, ⟨⟨y.1, y.2, hy⟩, fun r hr => ?_⟩, h3⟩
    rw [List.mem_singleton.1 hr]
    exact Kd.R_lower h2 hbase)
theorem stable_call' {V : Gh → Value} {C : Gh → Prop} {Rx : Gh → List RowF} {f : Bool} : (Mk.loud f V (mkP C Rx)).Stable (fun _ _ => False) := stable_call fun _ _ _ _ h => h.elim
theorem stT {c : Bool} {m : Mk} {D : World → World → Prop} (h : m.Stable (fun _ _ => False)) (hc : c = true := by rfl) : if c then m.Stable (fun _ _ => False) else m.Stable D := by rw [if_pos hc]; exact h
theorem stF {c : Bool} {m : Mk} {D : World → World → Prop} (h : m.Stable D) (hc : c = false := by rfl) : if c then m.Stable (fun _ _ => False) else m.Stable D := by rw [if_neg (by rw [hc]; decide)]; exact h
theorem stable_row {α : Type} {D : World → World → Prop} {V : Value → Value} {d : Kd α} {e base : Nat} {l : List α} : (mRow false V d e base l).Stable D := stable_call fun hf => by cases hf
theorem WOk.addBox {Rs' : List RowF} {w wr : World} {cs : List Value} {t : TypeId} {x : Gh} (h : WOk w0 L Rs w) (hr : WOk w0 L Rs' wr) (hb : pBox w0 wr cs t x w) : WOk w0 (⟨x.n 0, cs, t⟩ :: L) Rs w :=
  h.addBlk hb.1 hb.2.1 fun y hy e => by
    have h1 := (Array.getElem?_eq_some_iff.1 (hr.blk y hy).2).1
    have h2 := hb.2.2
    have e' : x.n 0 = y.g := e
    omega
def mLit (firm : Bool) (w0 wr : World) (cs : List Value) (t : TypeId) (n : Nat) : Mk := .loud firm (fun x => .slice (some ⟨x.n 0, 0, none⟩) n n) (pBox w0 wr cs t)
def mApp {α : Type} (firm : Bool) (d : Kd α) (e base : Nat) (l : List α) : Mk := .loud firm (fun x => x.v 0) (mkP (fun x => ∃ A c, x.v 0 = .slice A l.length c) (fun x => [rowF d e base (x.v 0) l]))
theorem mLit_V (f : Bool) (wr : World) (cs : List Value) (t : TypeId) (n : Nat) (x : Gh) : (mLit f w0 wr cs t n).V x = .slice (some ⟨x.n 0, 0, none⟩) n n := rfl
theorem mApp_V {α : Type} (f : Bool) (d : Kd α) (e base : Nat) (l : List α) (x : Gh) : (mApp f d e base l).V x = x.v 0 := rfl
theorem stable_lit {D : World → World → Prop} {wr : World} {cs : List Value} {t : TypeId} {n : Nat} : (mLit false w0 wr cs t n).Stable D :=
  ⟨fun x w w' ⟨h1, h2, h3⟩ hg => ⟨h1, (hg.block _ (Array.getElem?_eq_some_iff.1 h2).1).trans h2, h3⟩, fun hf => by cases hf⟩
theorem stable_app {α : Type} {D : World → World → Prop} {d : Kd α} {e base : Nat} {l : List α} : (mApp false d e base l).Stable D := stable_call fun hf => by cases hf
theorem stable_appF {α : Type} {d : Kd α} {e base : Nat} {l : List α} {f : Bool} : (mApp f d e base l).Stable (fun _ _ => False) := stable_call'
theorem stable_rowF {α : Type} {f : Bool} {V : Value → Value} {d : Kd α} {e base : Nat} {l : List α} : (mRow f V d e base l).Stable (fun _ _ => False) := stable_call'
theorem loud_lit {a : Act} {w wr : World} {f : Bool} {t e : TypeId} {ie : TypeInfo} {n : Nat} {parts : List (Nat × Operand)} {us : List (Nat × Value)} {z : Value} {cells : List Value} (ha : FOk N Fr a) (hw : WOk w0 L Rs w) (ho : o.op = .buildSlice t n parts.toArray) (ht : P.underlying t = some (.slice e)) (hi : P.info? e = some ie) (hz : ie.zero = some z) (hs : n * ie.size ≤ 2 ^ 24) (hp : parts.map (fun x => (evF Fr x.2).map fun v => (x.1, v)) = us.map some)
    (hf : Instr.fill (fun i => some (i * ie.size, ie.size)) ((Array.range (n * ie.size)).map ((if n * ie.size = 0 then #[] else z.cells)[· % (if n * ie.size = 0 then #[] else z.cells).size]!)) us = some cells.toArray) (hg : wantF ops Fr o = some true) (hwr : wr.heap.size ≤ w.heap.size) : LoudAt P ops a w o Grow (mLit f w0 wr cells e n) := by
  have h1 : parts.map (fun (i, x) => (i, a.eval x)) = us := by
    have h2 : (parts.map (fun (i, x) => (i, a.eval x))).map some = us.map some := by
      rw [← hp, List.map_map]
      refine List.map_congr_left fun x hx => ?_
      have hm : (evF Fr x.2).map (fun v => (x.1, v)) ∈ us.map some := by rw [← hp]; exact List.mem_map_of_mem hx
      obtain ⟨u, _, hu⟩ := List.mem_map.1 hm
      cases he : evF Fr x.2 with
      | none => rw [he] at hu; cases hu
      | some v => simp [ha.ev he]
    exact List.map_inj_right (fun _ _ h => Option.some.inj h) |>.1 h2
  have hrun : (execOp a.eval o).run P w = .ok (.value (.slice (some ⟨w.heap.size, 0, none⟩) n n)) (w.alloc (.cells cells.toArray e)) := by
    unfold execOp
    have hsz : (sizeOf e).run P w = .ok ie.size w := by simp [sizeOf, typeInfo, hi]
    have hzr : (zeroValue e).run P w = .ok z w := by simp [zeroValue, typeInfo, hi, hz]
    have hs' : ¬ n * ie.size > 2 ^ 24 := by omega
    simp only [ho, Instr.buildSlice]
    by_cases h0 : n * ie.size = 0
    · rw [if_pos h0] at hf
      simp [Sem.run_bind, run_underlying ht w, hsz, hs', h0, h1, run_newRow]
      simp [h0] at hf
      simp [hf, Sem.run_bind, run_newRow]
    · rw [if_neg h0] at hf
      simp [Sem.run_bind, run_underlying ht w, hsz, hs', h0, hzr, h1, run_newRow]
      try simp at hf
      simp [hf, Sem.run_bind, run_newRow]
  refine loud_of_run (x := ⟨fun _ => undef, fun _ => w.heap.size⟩) (ha.want hg) hrun ((Below.refl _ _).alloc (Nat.le_refl _) _) ⟨hw.below.size, ?_, hwr⟩
  show (w.heap.push _)[w.heap.size]? = _
  simp
theorem run_copy {α : Type} {d : Kd α} {W : World} {g base : Nat} {t ty e : TypeId} {z : Value} {bytes : Nat} (hflat : ∀ (w w' : World) (base : Nat) (ok : Nat → Prop) (x : α) (cs : List Value), d.K w x cs → d.M w' base ok x cs) (ht : P.underlying t = some (.slice e)) (hinfo : (P.info? e).map (fun i => (i.zero, i.size, i.bytes)) = some (some z, d.sz, bytes)) (hz : z.cells.size = d.sz) (hs0 : 0 < d.sz) (hb0 : 0 < bytes)
    (hg : W.heap[g]? = some (.cells #[] e (0, 0))) (hgb : base ≤ g) (hbase : base ≤ W.heap.size) {A : Option Addr} {m c : Nat} {ys : List α} (HR : d.C W A m ys) (hl : m * bytes ≤ 140737488355328) :
    ∃ v1 w1, (Builtin.append_ #[t, t] ty #[.slice (some ⟨g, 0, none⟩) 0 0, .slice A m c]).run P W = .ok v1 w1 ∧ d.R e w1 base (fun _ => True) v1 ys ∧ Grow W w1 := by
  obtain ⟨i0, hi, hzz⟩ := Option.map_eq_some_iff.1 hinfo
  simp only [Prod.mk.injEq] at hzz
  obtain ⟨hz0, hz1, hz2⟩ := hzz
  have hm : ys.length = m := HR.1
  have hown : W.ownsRow base e d.sz (.slice (some ⟨g, 0, none⟩) 0 0) 0 [] := ⟨by simp, .inr ⟨g, 0, #[], rfl, hgb, hg, Nat.le_refl _, Nat.zero_le _, by simp, by simp⟩⟩
  rcases Nat.eq_zero_or_pos m with h0 | h0
  · subst h0
    obtain rfl : ys = [] := List.eq_nil_of_length_eq_zero hm
    refine ⟨.slice (some ⟨g, 0, none⟩) 0 0, W, ?_, ⟨fun _ _ => trivial, [], by simpa using hown, Reps.none _ _⟩, Grow.refl W⟩
    cases A with
    | none => simp [Builtin.append_, run_underlying ht, sizeOf, typeInfo, hi, Builtin.lenOf, Builtin.firstCells, storeCells]
    | some ad => simp [Builtin.append_, run_underlying ht, sizeOf, typeInfo, hi, Builtin.lenOf, Builtin.firstCells, storeCells, loadCells, loadCellsFrom]
  · obtain ⟨ad, rfl, _⟩ := HR.2.2 h0
    obtain ⟨news, hnr, hnc⟩ := ReadsRow.inner_ HR
    have hone : ∀ u ∈ news, u.oneCell' = true := by
      intro u hu
      obtain ⟨q, hq, rfl⟩ := List.mem_iff_getElem.1 hu
      have hql : q / d.sz < ys.length := by
        rw [Nat.div_lt_iff_lt_mul hs0]
        rw [← hnr.1]
        exact hq
      have hc := hnr.2 (q / d.sz) _ (List.getElem?_eq_getElem hql)
      refine d.K_one hc _ ?_
      rw [List.mem_iff_getElem?]
      refine ⟨q % d.sz, ?_⟩
      rw [List.getElem?_take, if_pos (Nat.mod_lt _ hs0), List.getElem?_drop, Nat.mul_comm, Nat.div_add_mod, List.getElem?_eq_getElem hq]
    have hle : m ≤ 140737488355328 := Nat.le_trans (Nat.le_mul_of_pos_right _ hb0) hl
    obtain ⟨v1, w1, hrun, h2, _, _, _⟩ := run_append_own_at (P := P) W base t ty e i0 z d.sz bytes ht hi hz0 hz1 hz2 hz hs0 _ 0 [] hown ad m c news (by rw [hnr.1, hm]) hnc hone (by simp only [maxLen]; omega) (by simpa using hl) hbase
    have hr := run_append_grow (P := P) W t ty e i0 z ht hi hz0 ⟨g, 0, none⟩ 0 0 [] (by simp) (by simp) ad m c news (by rw [hnr.1, hm, hz1]) hnc (by omega) (by omega) (growslice_fits (by omega) (by rw [hz2]; simpa using hl))
    have he := hrun.symm.trans hr
    injection he with hv hw
    subst hv hw
    refine ⟨_, _, hrun, ⟨fun _ _ => trivial, news, by rw [hm]; simpa using h2, hnr.imp_ (fun _ _ hp => hflat _ _ _ _ _ _ hp)⟩, (Below.drew (Below.refl _ _)).alloc (Nat.le_refl _) _⟩
theorem loud_append {a : Act} {w : World} {D : World → World → Prop} {m : Mk} {s x : Operand} {t : TypeId} {v u : Value} (ha : FOk N Fr a) (ho : o.op = .call { callee := .builtin .append, args := #[s, x], argTypes := #[t, t] }) (hs : evF Fr s = some v) (hx : evF Fr x = some u) (hg : wantF ops Fr o = some true)
    (h : ∃ y w', (Builtin.append_ #[t, t] o.type #[v, u]).run P w = .ok (m.V y) w' ∧ m.p y w' ∧ D w w') : LoudAt P ops a w o D m := by
  obtain ⟨y, w', hr, hp, hD⟩ := h
  refine loud_of_run (ha.want hg) (x := y) (w' := w') ?_ hD hp
  unfold execOp
  simp only [ho, resolve, invoke, builtin, Sem.run_bind, Sem.run_pure, Result.andThen_ok, List.map_toArray, List.map_cons, List.map_nil, ha.ev hs, ha.ev hx, hr]
theorem loud_copy {α : Type} {d : Kd α} {a : Act} {w wr : World} {f : Bool} {s x : Operand} {t e : TypeId} {z : Value} {bytes : Nat} {y : Gh} {A : Option Addr} {m c : Nat} {ys : List α} (ha : FOk N Fr a) (hw : WOk w0 L Rs w) (ho : o.op = .call { callee := .builtin .append, args := #[s, x], argTypes := #[t, t] }) (hs : evF Fr s = some (.slice (some ⟨y.n 0, 0, none⟩) 0 0)) (hx : evF Fr x = some (.slice A m c)) (hg : wantF ops Fr o = some true)
    (hflat : ∀ (w w' : World) (base : Nat) (ok : Nat → Prop) (x : α) (cs : List Value), d.K w x cs → d.M w' base ok x cs) (ht : P.underlying t = some (.slice e)) (hinfo : (P.info? e).map (fun i => (i.zero, i.size, i.bytes)) = some (some z, d.sz, bytes)) (hz : z.cells.size = d.sz) (hs0 : 0 < d.sz) (hb0 : 0 < bytes) (hb : pBox w0 wr [] e y w) (HR : d.C w A m ys) (hl : m * bytes ≤ 140737488355328) {base : Nat} (hbg : base ≤ y.n 0) (hbase : base ≤ w.heap.size) : LoudAt P ops a w o Grow (mApp f d e base ys) := by
  refine loud_append ha ho hs hx hg ?_
  obtain ⟨v1, w1, h1, h2, h3⟩ := run_copy (P := P) (ty := o.type) (c := c) hflat ht hinfo hz hs0 hb0 hb.2.1 hbg hbase HR hl
  obtain ⟨y1, hy⟩ := slice_of h2
  exact ⟨⟨fun _ => v1, fun _ => 0⟩, w1, h1, ⟨⟨y1.1, y1.2, hy⟩, fun r hr => by rw [List.mem_singleton.1 hr]; exact h2⟩, h3⟩
theorem de_of_grown {α : Type} {d : Kd α} {e base lo : Nat} {w w' : World} {v : Value} {l : List α} (h : d.R e w base (fun _ => True) v l) (hlo : lo ≤ base) (hb : Below w0.heap.size w w') (hg : w.grownBy w' v.ownBlock) : De e lo w0 w w' :=
  ⟨hb, fun k c q f hq hk => hg.block k (Array.getElem?_eq_some_iff.1 hk).1 fun he => by
    obtain ⟨_, inner, ho, _⟩ := h
    rcases hq with hq | hq
    · obtain ⟨cells, hc⟩ := own_typed ho k he.symm
      rw [hc] at hk
      injection hk with hk
      injection hk with _ hk
      exact hq hk.symm
    · have := own_base ho k he.symm
      omega⟩
theorem loud_app1 {α : Type} {d : Kd α} {a : Act} {w wr : World} {f : Bool} {s x : Operand} {t e : TypeId} {z : Value} {bytes : Nat} {y : Gh} {v : Value} {l : List α} {p : α} {cs : List Value} (ha : FOk N Fr a) (hw : WOk w0 L Rs w) (ho : o.op = .call { callee := .builtin .append, args := #[s, x], argTypes := #[t, t] }) (hs : evF Fr s = some v) (hx : evF Fr x = some (.slice (some ⟨y.n 0, 0, none⟩) 1 1)) (hg : wantF ops Fr o = some true)
    {base : Nat} (hM : d.M w base (fun _ => False) p cs) (ht : P.underlying t = some (.slice e)) (hinfo : (P.info? e).map (fun i => (i.zero, i.size, i.bytes)) = some (some z, d.sz, bytes)) (hz : z.cells.size = d.sz) (hs0 : 0 < d.sz) (hb0 : 0 < bytes) (hb : pBox w0 wr cs e y w) (HO : d.R e w base (fun _ => True) v l) (hl : (l.length + 1) * bytes ≤ 140737488355328) {lo : Nat} (hlo : lo ≤ base) (hb0' : w0.heap.size ≤ base) (hbase : base ≤ w.heap.size) : LoudAt P ops a w o (De e lo w0) (mApp f d e base (l ++ [p])) := by
  refine loud_append ha ho hs hx hg ?_
  obtain ⟨v1, w1, h1, h2, h3, h4⟩ := run_app_one (P := P) d w base t o.type e z bytes ht hinfo hz hs0 hb0 v l p cs (y.n 0) HO hM hb.2.1 hbase hl
  obtain ⟨y1, hy⟩ := slice_of h2
  exact ⟨⟨fun _ => v1, fun _ => 0⟩, w1, h1, ⟨⟨y1.1, y1.2, hy⟩, fun r hr => by rw [List.mem_singleton.1 hr]; exact h2⟩, de_of_grown HO hlo (h3.mono hb0') h4⟩
theorem loud_litI {a : Act} {w wr : World} {f : Bool} {t e : TypeId} {sz bytes n : Nat} {parts : List (Nat × Operand)} {us : List (Nat × Value)} {z : Value} {cells : List Value} (ha : FOk N Fr a) (hw : WOk w0 L Rs w) (ho : o.op = .buildSlice t n parts.toArray) (ht : P.underlying t = some (.slice e)) (hinfo : (P.info? e).map (fun i => (i.zero, i.size, i.bytes)) = some (some z, sz, bytes)) (hs : Nat.ble (n * sz) 16777216 = true) (hp : parts.map (fun x => (evF Fr x.2).map fun v => (x.1, v)) = us.map some)
    (hf : Instr.fill (fun i => some (i * sz, sz)) ((Array.range (n * sz)).map ((if n * sz = 0 then #[] else z.cells)[· % (if n * sz = 0 then #[] else z.cells).size]!)) us = some cells.toArray) (hg : wantF ops Fr o = some true) (hwr : wr.heap.size ≤ w.heap.size) : LoudAt P ops a w o Grow (mLit f w0 wr cells e n) := by
  obtain ⟨i0, hi, hzz⟩ := Option.map_eq_some_iff.1 hinfo
  simp only [Prod.mk.injEq] at hzz
  obtain ⟨hz0, hz1, hz2⟩ := hzz
  subst hz1
  exact loud_lit ha hw ho ht hi hz0 (Nat.le_of_ble_eq_true hs) hp hf hg hwr
theorem limS {α : Type} {p : Prop} [Decidable p] {A : Option α} {r : α} (h : (if p then A else none) = some r) : p ∧ A = some r := by
  split at h
  · exact ⟨‹p›, h⟩
  · cases h
theorem regWF {F : List (Nat × Mk)} {fl : List Nat} {clo : List (List Nat)} {z : Nat} {Wf Wt : World → Prop} {D : World → World → Prop} {w : World} (hp : pre (some z) clo i = true) (h : (Reg.mk F fl clo (some z) Wf Wt D).W i w) : Wf w := by
  unfold Reg.W at h
  simp only [hp, if_true] at h
  exact h
theorem regWT {F : List (Nat × Mk)} {fl : List Nat} {clo : List (List Nat)} {z : Nat} {Wf Wt : World → Prop} {D : World → World → Prop} {w : World} (hp : pre (some z) clo i = false) (h : (Reg.mk F fl clo (some z) Wf Wt D).W i w) : Wt w := by
  unfold Reg.W at h
  simp only [hp, Bool.false_eq_true, if_false] at h
  exact h
theorem regEZ {F : List (Nat × Mk)} {fl : List Nat} {clo : List (List Nat)} {z : Nat} {Wf Wt : World → Prop} {D : World → World → Prop} {w : World} (h : if (Reg.mk F fl clo (some z) Wf Wt D).z = none then (Reg.mk F fl clo (some z) Wf Wt D).Wf w else (Reg.mk F fl clo (some z) Wf Wt D).Wt w) : Wt w := h
def SubF (Fr : List (Nat × Value)) : List (Nat × Value) → Prop
  | [] => True
  | x :: l => lk Fr x.1 = some x.2 ∧ SubF Fr l
theorem SubF.get {Fr : List (Nat × Value)} : ∀ {l : List (Nat × Value)}, SubF Fr l → ∀ t v, lk l t = some v → lk Fr t = some v
  | [], _, t, v, h => by cases h
  | (k, u) :: l, hs, t, v, h => by
    simp only [lk] at h
    cases hb : Nat.beq t k with
    | true =>
      rw [hb] at h
      have h1 := Nat.eq_of_beq_eq_true hb
      subst h1
      have h2 : u = v := Option.some.inj h
      subst h2
      exact hs.1
    | false => rw [hb] at h; exact SubF.get hs.2 t v h
theorem FOk.sub {Fr2 : List (Nat × Value)} {a : Act} (h : FOk N Fr a) (hs : SubF Fr Fr2) : FOk N Fr2 a := ⟨h.sz, h.df, fun t v ht => h.fr t v (hs.get t v ht)⟩
theorem SyC.fewer {c : Code} {Fr2 : List (Nat × Value)} (hs : SubF Fr Fr2) (k : SyC P Q N w0 c Fr2 L Rs) : SyC P Q N w0 c Fr L Rs := fun a w ha hw => k a w (ha.sub hs) hw
theorem SyC.loop {c : Code} {X : Type} (μ : X → Nat) (Fr : X → List (Nat × Value)) (L : X → List Blk) (Rs : X → List RowF) (I : X → Prop) (x0 : X) (h0 : I x0)
    (round : ∀ x, I x → SyC P (Exit.then (fun a w => ∃ y, (I y ∧ μ y < μ x) ∧ FOk N (Fr y) a ∧ WOk w0 (L y) (Rs y) w) Q) N w0 c (Fr x) (L x) (Rs x)) : SyC P Q N w0 (.loop c) (Fr x0) (L x0) (Rs x0) := by
  intro a w ha hw
  refine wp_loop_ghost (fun n a w => ∃ x, I x ∧ μ x = n ∧ FOk N (Fr x) a ∧ WOk w0 (L x) (Rs x) w) (μ x0) ⟨x0, h0, rfl, ha, hw⟩ ?_
  rintro n a w ⟨x, hx, rfl, ha, hw⟩
  refine Code.wp_mono (fun e a' w' h => ?_) (round x hx a w ha hw)
  cases e with
  | normal =>
    obtain ⟨y, ⟨h1, h2⟩, h3, h4⟩ := h
    exact ⟨μ y, h2, y, h1, rfl, h3, h4⟩
  | _ => exact h
theorem SyP.again {X : Type} {p : X → Prop} {Fy : X → List (Nat × Value)} {Ly : X → List Blk} {Ry : X → List RowF} (y : X) (hp : p y) (hs : SubF Fr (Fy y)) (hL : Ly y = L) (hR : Ry y = Rs) : SyP (Exit.then (fun a w => ∃ y, p y ∧ FOk N (Fy y) a ∧ WOk w0 (Ly y) (Ry y) w) Q) N w0 .normal Fr L Rs :=
  fun a w ha hw => ⟨y, hp, ha.sub hs, by rw [hL, hR]; exact hw⟩
theorem wpList_app : ∀ (l1 l2 : List Oper) (a : Act) (w : World), wpList P ops (Exit.then (wpList P ops Q l2) Q) l1 a w → wpList P ops Q (l1 ++ l2) a w
  | [], l2, a, w, h => h
  | o :: l1, l2, a, w, h => by
    show wpList P ops Q (o :: (l1 ++ l2)) a w
    unfold wpList at h ⊢
    split
    · rename_i hw
      rw [if_pos hw] at h
      rcases h with h | ⟨h1, h2⟩
      · refine .inl ?_
        unfold Oper.wp at h ⊢
        generalize (execOp a.eval o).run P w = r at *
        cases r with
        | ok n w' =>
          cases n <;> simp only [Oper.upon] at h ⊢
          case value v => exact wpList_app l1 l2 _ _ h
          case skip => exact wpList_app l1 l2 _ _ h
          case defer d => exact wpList_app l1 l2 _ _ h
          case enter f args =>
            refine h.mono fun e w'' he => ?_
            cases e with
            | returned v => exact wpList_app l1 l2 _ _ he
            | panicked c => exact he
            | outgrown => exact he
          case row row args => exact h.mono fun v w'' he => wpList_app l1 l2 _ _ he
        | halt x w' => cases x <;> simp only [Oper.upon] at h ⊢ <;> exact h
      · exact .inr ⟨h1, h2⟩
    · rename_i hw
      rw [if_neg hw] at h
      exact wpList_app l1 l2 _ _ h
theorem SyL.join {l : List Oper} {Fr2 : List (Nat × Value)} (n : Nat) (h : ∀ K : Act → World → Prop, (∀ a w, FOk N Fr2 a → WOk w0 L Rs w → K a w) → SyL P ops (Exit.then K Q) N w0 (l.take n) Fr L Rs) (k : SyL P ops Q N w0 (l.drop n) Fr2 L Rs) : SyL P ops Q N w0 l Fr L Rs := by
  intro a w ha hw
  rw [← List.take_append_drop n l]
  exact wpList_app _ _ _ _ (h _ (fun a w ha hw => k a w ha hw) a w ha hw)
theorem SyP.to {K : Act → World → Prop} {Fr2 : List (Nat × Value)} (hK : ∀ a w, FOk N Fr2 a → WOk w0 L Rs w → K a w) (hs : SubF Fr Fr2) : SyP (Exit.then K Q) N w0 .normal Fr L Rs := fun a w ha hw => hK a w (ha.sub hs) hw
theorem lk_andF {d : Nat} {c Y : Bool} (hc : c = false) (h : lk Fr d = some (.bool false)) : lk Fr d = some (.bool (c && Y)) := by rw [h, hc]; rfl
theorem lk_andT {d : Nat} {c x Y : Bool} (hc : c = true) (h : lk Fr d = some (.bool x)) (hY : x = Y) : lk Fr d = some (.bool (c && Y)) := by rw [h, hc, hY]; rfl
theorem lk_orT {d : Nat} {c Y : Bool} (hc : c = true) (h : lk Fr d = some (.bool true)) : lk Fr d = some (.bool (c || Y)) := by rw [h, hc]; rfl
theorem lk_orF {d : Nat} {c x Y : Bool} (hc : c = false) (h : lk Fr d = some (.bool x)) (hY : x = Y) : lk Fr d = some (.bool (c || Y)) := by rw [h, hc, hY]; rfl
theorem notF {c : Bool} (h : c = false) : (!c) = true := by rw [h]; rfl
theorem notT {c : Bool} (h : c = true) : (!c) = false := by rw [h]; rfl
theorem SyL.get {p : Prop} (h : ∀ w, WOk w0 L Rs w → p) (k : p → SyL P ops Q N w0 rest Fr L Rs) : SyL P ops Q N w0 rest Fr L Rs := fun a w ha hw => k (h w hw) a w ha hw
theorem x_rem {t t2 : TypeId} {x y : Operand} {k : IntKind} {p q : Int} (ho : o.op = .binOp .rem t x y t2) (hx : evF Fr x = some (.int k p)) (hy : evF Fr y = some (.int k q)) (hq : (q == 0) = false) : Xrun P N w0 Fr L Rs o (.int k (p.tmod q)) := by
  have hq' : ¬ q = 0 := by simpa using hq
  exact x_bin ho hx hy rfl fun w => by simp [binOp, Op.intDiv, hq']
theorem x_beq {t t2 : TypeId} {x y : Operand} {b c : Bool} (ho : o.op = .binOp .eql t x y t2) (hx : evF Fr x = some (.bool b)) (hy : evF Fr y = some (.bool c)) (h : ∀ w, (Op.equal t (.bool b) (.bool c)).run P w = .ok (b == c) w) : Xrun P N w0 Fr L Rs o (.bool (b == c)) := by
  intro a w ha hw
  unfold execOp
  simp only [ho, ha.ev hx, ha.ev hy]
  have hg : (eqGuard .eql t x y (.bool b) (.bool c)).run P w = .ok () w := rfl
  simp [Sem.run_bind, hg, binOp, h w]
theorem x_bne {t t2 : TypeId} {x y : Operand} {b c : Bool} (ho : o.op = .binOp .neq t x y t2) (hx : evF Fr x = some (.bool b)) (hy : evF Fr y = some (.bool c)) (h : ∀ w, (Op.equal t (.bool b) (.bool c)).run P w = .ok (b == c) w) : Xrun P N w0 Fr L Rs o (.bool (!(b == c))) := by
  intro a w ha hw
  unfold execOp
  simp only [ho, ha.ev hx, ha.ev hy]
  have hg : (eqGuard .neq t x y (.bool b) (.bool c)).run P w = .ok () w := rfl
  simp [Sem.run_bind, hg, binOp, h w]
theorem x_neS {t t2 : TypeId} {x y : Operand} {cs ds : List Value} {b : Bool} (ho : o.op = .binOp .neq t x y t2) (hx : evF Fr x = some (.agg cs.toArray)) (hy : evF Fr y = some (.agg ds.toArray)) (hgd : P.eqGuardType P.depth t = false) (h : ∀ w, (Op.equal t (.agg cs.toArray) (.agg ds.toArray)).run P w = .ok b w) : Xrun P N w0 Fr L Rs o (.bool (!b)) := by
  intro a w ha hw
  unfold execOp
  simp only [ho, ha.ev hx, ha.ev hy]
  have hg : (eqGuard .neq t x y (.agg cs.toArray) (.agg ds.toArray)).run P w = .ok () w := by
    unfold eqGuard
    simp [Sem.run_bind, program, Sem.run, hgd]
  simp [Sem.run_bind, hg, binOp, h w]
theorem x_idx {x y : Operand} {t e n c sz : Nat} {ad : Addr} {k : IntKind} {i : Int} (ho : o.op = .indexAddr t x y) (hx : evF Fr x = some (.slice (some ad) n c)) (hy : evF Fr y = some (.int k i)) (h0 : 0 ≤ i) (h1 : i < n) (ht : P.underlying t = some (.slice e)) (hs : sizeT P e = some sz) : Xrun P N w0 Fr L Rs o (.pointer (some (ad.add (i.toNat * sz)))) := by
  intro a w ha hw
  unfold execOp
  have hsz : (sizeOf e).run P w = .ok sz w := by
    unfold sizeT at hs
    cases hi : P.info? e with
    | none => rw [hi] at hs; cases hs
    | some q =>
      rw [hi] at hs
      have : q.size = sz := by simpa using hs
      simp [sizeOf, typeInfo, hi, this]
  simp only [ho, ha.ev hx, ha.ev hy, Instr.indexAt]
  simp [Sem.run_bind, asIntOf, run_underlying ht w, hsz, h0, h1]
theorem x_fieldAddrG {x : Operand} {s j k : Nat} {A : Addr} (ho : o.op = .fieldAddr s x j) (hx : evF Fr x = some (.pointer (some A))) (hf : fieldOff P s j = some k) : Xrun P N w0 Fr L Rs o (.pointer (some (A.add k))) := by
  intro a w ha hw
  unfold execOp
  unfold fieldOff at hf
  cases hu : P.underlying s with
  | none => rw [hu] at hf; cases hf
  | some d =>
    rw [hu] at hf
    cases d with
    | struct fs =>
      simp only at hf
      cases hj : fs[j]? with
      | none => rw [hj] at hf; cases hf
      | some f =>
        rw [hj, Option.bind_some] at hf
        cases hi : P.info? f.type with
        | none => rw [hi] at hf; cases hf
        | some q =>
          rw [hi, Option.bind_some] at hf
          split at hf
          · cases hf
          · rename_i hne
            have hk : f.offset = k := Option.some.inj hf
            have hz : (sizeOf f.type).run P w = .ok q.size w := by simp [sizeOf, typeInfo, hi]
            simp only [ho, ha.ev hx, Instr.fieldAt]
            simp [Sem.run_bind, run_underlying hu w, hj, Instr.sureAddr, fieldPlace, hz, hne, hk]
    | _ => cases hf
theorem x_loadC {x : Operand} {t : Nat} {A : Addr} {v : Value} (ho : o.op = .load t x) (hx : evF Fr x = some (.pointer (some A))) (ht : oneT P t = true) (hc : ∀ w, WOk w0 L Rs w → w.cell? A = some v) : Xrun P N w0 Fr L Rs o v := by
  intro a w ha hw
  unfold execOp
  have h1 := run_isOne ht w
  simp only [ho, ha.ev hx, Instr.loadAt, Instr.sureAddr, loadVar]
  simp [Sem.run_bind, h1.1, load, Sem.run, hc w hw]
end
end Go.Proofs.Ytdlmincaplbpgaa.Q
namespace Go.Proofs.Ytdlmincaplbpgaa.Q
open Go.RowKit Go.Proofs.YtdlmincaplbpgaaW.PrintWords Go.Proofs.YtdlmincaplbpgaaW.PrintLast Go.Proofs.YtdlmincaplbpgaaW.PrintMore
attribute [local go_sem] max2_int min2_int max_two min_two max_three min_three max_four min_four
set_option linter.unusedVariables false
set_option linter.unusedSimpArgs false
abbrev zc33 : List Value := [(.int .i64 0), (.int .i64 0), (.int .i64 0)]
abbrev zc35 : List Value := [(.slice none 0 0), (.int .i64 0), (.int .i64 0), (.int .i64 0), (.int .i64 0), (.int .i64 0), (.int .i64 0)]
theorem agg33 : aggT Try.prog 33 = some 3 := by kernel_rfl
theorem agg35 : aggT Try.prog 35 = some 7 := by kernel_rfl
theorem agg54 : aggT Try.prog 54 = some 2 := by kernel_rfl
theorem bt54 : buildT Try.prog 54 = some (#[(.int .i64 0), (.int .i64 0)], #[(0, 1), (1, 1)]) := by kernel_rfl
theorem cl106 : callable Try.prog 106 = true := by kernel_rfl
theorem cl15 : callable Try.prog 15 = true := by kernel_rfl
theorem cl16 : callable Try.prog 16 = true := by kernel_rfl
theorem cl17 : callable Try.prog 17 = true := by kernel_rfl
theorem cl18 : callable Try.prog 18 = true := by kernel_rfl
theorem cl19 : callable Try.prog 19 = true := by kernel_rfl
theorem cl20 : callable Try.prog 20 = true := by kernel_rfl
theorem cl21 : callable Try.prog 21 = true := by kernel_rfl
theorem cl22 : callable Try.prog 22 = true := by kernel_rfl
theorem cl54 : callable Try.prog 54 = true := by kernel_rfl
theorem cl56 : callable Try.prog 56 = true := by kernel_rfl
theorem cl8 : callable Try.prog 8 = true := by kernel_rfl
theorem cl85 : callable Try.prog 85 = true := by kernel_rfl
theorem cl89 : callable Try.prog 89 = true := by kernel_rfl
theorem eqB4 (b c : Bool) (w : World) : (Op.equal 4 (.bool b) (.bool c)).run Try.prog w = .ok (b == c) w := by kernel_rfl
theorem eqg33 : Try.prog.eqGuardType Try.prog.depth 33 = false := by kernel_rfl
theorem fo33_0 : fieldOff Try.prog 33 0 = some 0 := by kernel_rfl
theorem fo33_1 : fieldOff Try.prog 33 1 = some 1 := by kernel_rfl
theorem fo33_2 : fieldOff Try.prog 33 2 = some 2 := by kernel_rfl
theorem fo35_0 : fieldOff Try.prog 35 0 = some 0 := by kernel_rfl
theorem fo35_1 : fieldOff Try.prog 35 1 = some 1 := by kernel_rfl
theorem fo35_2 : fieldOff Try.prog 35 2 = some 4 := by kernel_rfl
theorem fo35_3 : fieldOff Try.prog 35 3 = some 5 := by kernel_rfl
theorem fo35_4 : fieldOff Try.prog 35 4 = some 6 := by kernel_rfl
theorem fo54_0 : fieldOff Try.prog 54 0 = some 0 := by kernel_rfl
theorem mixedO : Try.prog.follows .mixedOrders = true := by kernel_rfl
theorem one3 : oneT Try.prog 3 = true := by kernel_rfl
theorem one31 : oneT Try.prog 31 = true := by kernel_rfl
theorem size3 : sizeT Try.prog 3 = some 1 := by kernel_rfl
theorem size33 : sizeT Try.prog 33 = some 3 := by kernel_rfl
theorem size35 : sizeT Try.prog 35 = some 7 := by kernel_rfl
theorem size54 : sizeT Try.prog 54 = some 2 := by kernel_rfl
theorem zero33 : zeroT Try.prog 33 = some zc33.toArray := by kernel_rfl
theorem zero35 : zeroT Try.prog 35 = some zc35.toArray := by kernel_rfl
end Go.Proofs.Ytdlmincaplbpgaa.Q
namespace Go.Proofs.Ytdlmincaplbpgaa.Q
open Go.RowKit Go.Proofs.YtdlmincaplbpgaaW.PrintWords Go.Proofs.YtdlmincaplbpgaaW.PrintLast Go.Proofs.YtdlmincaplbpgaaW.PrintMore
attribute [local go_sem] max2_int min2_int max_two min_two max_three min_three max_four min_four
set_option linter.unusedVariables false
set_option linter.unusedSimpArgs false
def impl_Enter.f (l0_0 : List (S54)) (a0_1 : Int) (a0_2 : Int) (a0_3 : Int) (a0_4 : Int) (a0_5 : Int) (a0_6 : Int) (a1_0 : Int) (a1_1 : Int) : Option ((List (S54)) × Int × Int × Int × Int × Int × Int × Bool) := ((impl_BookOk.f l0_0 a0_1 a0_2 a0_3 a0_4 a0_5 a0_6).bind fun t4 => (if t4 = true then ((impl_bookCopy.f l0_0 a0_1 a0_2 a0_3 a0_4 a0_5 a0_6).bind fun t10 => (if t10.1.length + 1 < 8796093022208 then ((impl_counted.f ((t10.1 ++ [(⟨a1_0, a1_1⟩ : S54)]))).bind fun t16 => (if t16.2.2.2.2.2.2.2 = true then some (t16.1, t16.2.1, t16.2.2.1, t16.2.2.2.1, t16.2.2.2.2.1, t16.2.2.2.2.2.1, t16.2.2.2.2.2.2.1, true) else ((impl_bookCopy.f l0_0 a0_1 a0_2 a0_3 a0_4 a0_5 a0_6).bind fun t21 => some (t21.1, t21.2.1, t21.2.2.1, t21.2.2.2.1, t21.2.2.2.2.1, t21.2.2.2.2.2.1, t21.2.2.2.2.2.2, false)))) else none)) else ((impl_bookCopy.f l0_0 a0_1 a0_2 a0_3 a0_4 a0_5 a0_6).bind fun t5 => some (t5.1, t5.2.1, t5.2.2.1, t5.2.2.2.1, t5.2.2.2.2.1, t5.2.2.2.2.2.1, t5.2.2.2.2.2.2, false))))
set_option maxHeartbeats 4000000 in
set_option maxRecDepth 100000 in
theorem impl_Enter.calls (A0_0 : Option Addr) (c0_0 : Nat) (l0_0 : List (S54)) (a0_1 : Int) (a0_2 : Int) (a0_3 : Int) (a0_4 : Int) (a0_5 : Int) (a0_6 : Int) (a1_0 : Int) (a1_1 : Int) (r1 : List (S54)) (r2 : Int) (r3 : Int) (r4 : Int) (r5 : Int) (r6 : Int) (r7 : Int) (r8 : Bool) (w : World) (hr0_0 : Kd.C k54 w A0_0 l0_0.length l0_0) (hc0_0 : l0_0.length ≤ c0_0) (h : impl_Enter.f l0_0 a0_1 a0_2 a0_3 a0_4 a0_5 a0_6 a1_0 a1_1 = some (r1, r2, r3, r4, r5, r6, r7, r8)) :
    Calls Try.prog 18 #[.agg #[.slice A0_0 l0_0.length c0_0, .int .i64 a0_1, .int .i64 a0_2, .int .i64 a0_3, .int .i64 a0_4, .int .i64 a0_5, .int .i64 a0_6], .agg #[.int .i64 a1_0, .int .i64 a1_1]] w fun e w' => ∃ v0_ : Value, e = .returned (.tuple #[.agg #[v0_, .int .i64 r2, .int .i64 r3, .int .i64 r4, .int .i64 r5, .int .i64 r6, .int .i64 r7], .bool r8]) ∧ Kd.R k54 54 w' w.heap.size (fun _ => True) v0_ r1 ∧ Below w.heap.size w w' := by
  unfold impl_Enter.f at h
  refine SyC.start (args := [_, _]) Try.func18 rfl Try.ntmps18 rfl ?_
  refine SyC.seq ?_
  refine SyC.region ?_
  refine SyL.box rfl rfl rfl rfl rfl rfl fun g1 => ?_
  refine SyL.box rfl rfl rfl rfl rfl rfl fun g2 => ?_
  refine SyL.alloc rfl zero35 rfl rfl rfl fun g3 => ?_
  refine SyL.x (x_move (.inr rfl) rfl) rfl rfl rfl ?_
  refine SyL.nil ?_
  refine SyP.seqN ?_
  refine SyC.seq ?_
  refine SyC.seq ?_
  refine SyC.region ?_
  refine SyL.x (x_loadW (i := 2) rfl rfl rfl rfl agg35) rfl rfl rfl ?_
  obtain ⟨t4, ht4, h⟩ := bindS h
  refine SyL.call0 (vs := [_]) rfl rfl cl15 rfl rfl rfl (fun w hw => impl_BookOk.calls _ _ _ _ _ _ _ _ _ _ w (Kd.C_below hr0_0 hw.below) hc0_0 ht4) ?_
  refine SyL.x (x_not rfl rfl) rfl rfl rfl ?_
  refine SyL.nil ?_
  refine SyP.seqN ?_
  cases t4
  · replace h := iteF rfl h
    refine SyC.condT rfl ?_
    refine SyC.seq ?_
    refine SyC.region ?_
    refine SyL.x (x_loadW (i := 2) rfl rfl rfl rfl agg35) rfl rfl rfl ?_
    obtain ⟨t5, ht5, h⟩ := bindS h
    refine SyL.call1 (vs := [_]) rfl rfl cl56 rfl rfl rfl (fun w hw => impl_bookCopy.calls _ _ _ _ _ _ _ _ _ _ _ _ _ _ _ _ w (Kd.C_below hr0_0 hw.below) hc0_0 ht5) fun A6 c7 => ?_
    refine SyL.storeW (i := 0) rfl rfl rfl rfl rfl rfl size35 rfl rfl rfl rfl rfl ?_
    refine SyL.x (x_move (.inr rfl) rfl) rfl rfl rfl ?_
    refine SyL.nil ?_
    refine SyP.seqN ?_
    refine SyC.ret ?_
    refine SyP.seqR ?_
    refine SyP.ret Try.results18 (.cons (resV_cell (i := 0) rfl rfl agg35) (.cons (resV_tmp rfl) .nil)) fun w hw => ?_
    simp only [Option.some.injEq, Prod.mk.injEq] at h
    obtain ⟨rfl, rfl, rfl, rfl, rfl, rfl, rfl, rfl⟩ := h
    exact ⟨_, rfl, hw.r 0 rfl, hw.below⟩
  · replace h := iteT rfl h
    refine SyC.condF rfl ?_
    refine SyC.skip ?_
    refine SyP.seqN ?_
    refine SyC.seq ?_
    obtain ⟨t10, ht10, h⟩ := bindS h
    obtain ⟨hl13, h⟩ := limS h
    obtain ⟨t16, ht16, h⟩ := bindS h
    refine SyC.anyZ (Rt := _) 11 5 54 [1, 4, 5, 6, 10] [9] [[], [0], [0, 1], [], [3], [0, 1, 2, 3, 4], [0, 1, 2, 3, 4, 5], [0, 1, 2, 3, 4, 5, 6], [0, 1, 2, 3, 4, 5, 6, 7], [0, 1, 2, 3, 4, 5, 6, 7], []] (fun WR => [(1, mRow false (fun v => .agg #[v, .int .i64 t10.2.1, .int .i64 t10.2.2.1, .int .i64 t10.2.2.2.1, .int .i64 t10.2.2.2.2.1, .int .i64 t10.2.2.2.2.2.1, .int .i64 t10.2.2.2.2.2.2]) k54 54 WR.heap.size t10.1), (4, mLit false w WR [.int .i64 a1_0, .int .i64 a1_1] 54 1), (5, mApp true k54 54 WR.heap.size (t10.1 ++ [(⟨a1_0, a1_1⟩ : S54)])), (6, mRow true (fun v => .tuple #[.agg #[v, .int .i64 t16.2.1, .int .i64 t16.2.2.1, .int .i64 t16.2.2.2.1, .int .i64 t16.2.2.2.2.1, .int .i64 t16.2.2.2.2.2.1, .int .i64 t16.2.2.2.2.2.2.1], .bool t16.2.2.2.2.2.2.2]) k54 54 w.heap.size t16.1), (10, mBox w WR zc35 35)]) (fun _ => rfl) mixedO (by kernel_rfl) (fun _ => rfl) rfl (fun _ h => h) (fun _ => ⟨stF (stable_row (V := fun v => .agg #[v, .int .i64 t10.2.1, .int .i64 t10.2.2.1, .int .i64 t10.2.2.2.1, .int .i64 t10.2.2.2.2.1, .int .i64 t10.2.2.2.2.2.1, .int .i64 t10.2.2.2.2.2.2])), stF stable_lit, stT stable_appF, stT (stable_rowF (V := fun v => .tuple #[.agg #[v, .int .i64 t16.2.1, .int .i64 t16.2.2.1, .int .i64 t16.2.2.2.1, .int .i64 t16.2.2.2.2.1, .int .i64 t16.2.2.2.2.2.1, .int .i64 t16.2.2.2.2.2.2.1], .bool t16.2.2.2.2.2.2.2])), stF (stable_boxE rfl), trivial⟩) fun wr8 xs9 hwr8 => ?_
    refine SyM.x (fun w hw => (regWF rfl hw).1) (x_loadW (i := 2) rfl rfl rfl rfl agg35) rfl rfl rfl rfl rfl ?_
    refine SyM.loud rfl rfl rfl (fun a w ha hw _ => loud_call1 (vs := [_]) ha (regWF rfl hw).1 rfl rfl cl56 rfl (impl_bookCopy.calls _ _ _ _ _ _ _ _ _ _ _ _ _ _ _ _ w (Kd.C_below hr0_0 (regWF rfl hw).1.below) hc0_0 ht10) (regWF rfl hw).2) ?_
    refine SyM.x (fun w hw => (regWF rfl hw).1) (x_field rfl rfl Try.underlying35 rfl (.inl ⟨one31, rfl⟩)) rfl rfl rfl rfl rfl ?_
    refine SyM.x (fun w hw => (regWF rfl hw).1) (x_loadW (i := 1) rfl rfl rfl rfl agg54) rfl rfl rfl rfl rfl ?_
    refine SyM.loud rfl rfl rfl (fun a w ha hw _ => loud_litI (us := [(0, .agg #[.int .i64 a1_0, .int .i64 a1_1])]) ha (regWF rfl hw).1 rfl Try.underlying31 info54 rfl rfl (by kernel_rfl) rfl (regWF rfl hw).2) ?_
    refine SyM.loud rfl rfl rfl (fun a w ha hw hh => ?_) ?_
    · obtain ⟨_, hh1, _, _, hh4, _⟩ := hh
      exact loud_app1 (y := xs9 4) ha (regWF rfl hw).1 rfl rfl rfl rfl (k54_mkM _ _ _ (⟨a1_0, a1_1⟩ : S54)) Try.underlying31 info54 rfl (by decide) (by decide) hh4 (hh1.2 _ (List.mem_singleton.2 rfl)) (by omega) (Nat.le_refl _) hwr8.below.size (regWF rfl hw).2
    refine SyM.loud rfl rfl rfl (fun a w ha hw hh => ?_) ?_
    · obtain ⟨_, _, _, _, _, hh5, _⟩ := hh
      obtain ⟨⟨A14, c15, hAA14⟩, hr5⟩ := hh5
      simp only [hAA14] at hr5
      have hRA14 := hr5 _ (List.mem_singleton.2 rfl)
      have hCA14 := (Kd.R_reads' hRA14).2.2
      have hcA14 := (Kd.R_reads' hRA14).2.1
      simp only [mBox_V, mRow_V, mRow2_V, known_V, mLit_V, mApp_V, hAA14] at ha
      exact loud_call1 (vs := [_]) ha (regWT rfl hw).1 rfl rfl cl54 rfl (impl_counted.calls _ _ _ _ _ _ _ _ _ _ _ w hCA14 hcA14 ht16) (regWT rfl hw).1.below.size
    refine SyM.x (fun w hw => (regWT rfl hw).1) (x_move (.inl rfl) rfl) rfl rfl rfl rfl rfl ?_
    refine SyM.x (fun w hw => (regWT rfl hw).1) (x_extract rfl rfl rfl) rfl rfl rfl rfl rfl ?_
    refine SyM.f (f_extract rfl rfl rfl) rfl rfl rfl rfl ?_
    refine SyM.loud rfl rfl rfl (fun a w ha hw _ => loud_alloc ha (regWT rfl hw).1 rfl zero35 rfl (regWT rfl hw).2) ?_
    refine SyM.nil fun a w_ ha hw hh => ?_
    obtain ⟨_, _, _, hh6, hh10, _⟩ := hh
    have hw := (regEZ hw).1
    obtain ⟨⟨A17, c18, hAA17⟩, hr6⟩ := hh6
    simp only [hAA17] at hr6
    simp only [mBox_V, mRow_V, mRow2_V, known_V, mLit_V, mApp_V, hAA17] at ha
    refine SyL.of ha ((hw.addRows hr6).addBox hwr8 hh10) ?_
    generalize (xs9 10).n 0 = g19
    refine SyL.boolAt (d := 22) rfl fun b20 hb20 => ?_
    refine SyL.storeW (i := 0) rfl rfl rfl rfl rfl rfl size35 rfl rfl rfl rfl rfl ?_
    refine SyL.x (x_move (.inr rfl) rfl) rfl rfl rfl ?_
    refine SyL.nil ?_
    refine SyP.np ?_
    refine SyP.seqN ?_
    refine SyC.seq ?_
    refine SyC.seq ?_
    refine SyC.region ?_
    refine SyL.x (x_move (.inl rfl) rfl) rfl rfl rfl ?_
    refine SyL.x (x_not rfl rfl) rfl rfl rfl ?_
    refine SyL.nil ?_
    refine SyP.seqN ?_
    cases b20
    · replace h := iteF hb20 h
      refine SyC.condT rfl ?_
      refine SyC.seq ?_
      refine SyC.region ?_
      refine SyL.x (x_loadW (i := 3) rfl rfl rfl rfl agg35) rfl rfl rfl ?_
      obtain ⟨t21, ht21, h⟩ := bindS h
      refine SyL.call1 (vs := [_]) rfl rfl cl56 rfl rfl rfl (fun w hw => impl_bookCopy.calls _ _ _ _ _ _ _ _ _ _ _ _ _ _ _ _ w (Kd.C_below hr0_0 hw.below) hc0_0 ht21) fun A22 c23 => ?_
      refine SyL.storeW (i := 1) rfl rfl rfl rfl rfl rfl size35 rfl rfl rfl rfl rfl ?_
      refine SyL.x (x_move (.inr rfl) rfl) rfl rfl rfl ?_
      refine SyL.nil ?_
      refine SyP.seqN ?_
      refine SyC.ret ?_
      refine SyP.seqR ?_
      refine SyP.ret Try.results18 (.cons (resV_cell (i := 1) rfl rfl agg35) (.cons (resV_tmp rfl) .nil)) fun w hw => ?_
      simp only [Option.some.injEq, Prod.mk.injEq] at h
      obtain ⟨rfl, rfl, rfl, rfl, rfl, rfl, rfl, rfl⟩ := h
      exact ⟨_, rfl, hw.r 0 rfl, hw.below⟩
    · replace h := iteT hb20 h
      refine SyC.condF rfl ?_
      refine SyC.skip ?_
      refine SyP.seqN ?_
      refine SyC.seq ?_
      refine SyC.region ?_
      refine SyL.x (x_loadW (i := 0) rfl rfl rfl rfl agg35) rfl rfl rfl ?_
      refine SyL.storeW (i := 1) rfl rfl rfl rfl rfl rfl size35 rfl rfl rfl rfl rfl ?_
      refine SyL.x (x_move (.inr rfl) rfl) rfl rfl rfl ?_
      refine SyL.nil ?_
      refine SyP.seqN ?_
      refine SyC.ret ?_
      refine SyP.ret Try.results18 (.cons (resV_cell (i := 1) rfl rfl agg35) (.cons (resV_tmp rfl) .nil)) fun w hw => ?_
      simp only [Option.some.injEq, Prod.mk.injEq] at h
      obtain ⟨rfl, rfl, rfl, rfl, rfl, rfl, rfl, rfl⟩ := h
      exact ⟨_, rfl, hw.r 0 rfl, hw.below⟩
end Go.Proofs.Ytdlmincaplbpgaa.Q
namespace Go.Proofs.Ytdlmincaplbpgaa.Q
open Go.RowKit Go.Proofs.YtdlmincaplbpgaaW.PrintWords Go.Proofs.YtdlmincaplbpgaaW.PrintLast Go.Proofs.YtdlmincaplbpgaaW.PrintMore
attribute [local go_sem] max2_int min2_int max_two min_two max_three min_three max_four min_four
set_option linter.unusedVariables false
set_option linter.unusedSimpArgs false
def impl_Strike.j0 : Nat → Bool → List (S54) → Int → Int → Int → Int → Int → Int → Option ((List (S54)) × Int × Int × Int × Int × Int × Int × Bool)
  | 0, _, _, _, _, _, _, _, _ => none
  | k + 1, x12, x102000, x102001, x102002, x102003, x102004, x102005, x102006 => if x12 = true then ((impl_bookCopy.f x102000 x102001 x102002 x102003 x102004 x102005 x102006).bind fun bt104 => (some (bt104.1, bt104.2.1, bt104.2.2.1, bt104.2.2.2.1, bt104.2.2.2.2.1, bt104.2.2.2.2.2.1, bt104.2.2.2.2.2.2, false))) else (if 0 ≤ (wrap64 ((x102000.length : Int) - 1)) then (if (wrap64 ((x102000.length : Int) - 1)) ≤ (x102000.length : Int) then ((impl_counted.f (x102000.take ((wrap64 ((x102000.length : Int) - 1)) : Int).toNat)).bind fun bt117 => (some (bt117.1, bt117.2.1, bt117.2.2.1, bt117.2.2.2.1, bt117.2.2.2.2.1, bt117.2.2.2.2.2.1, bt117.2.2.2.2.2.2.1, bt117.2.2.2.2.2.2.2))) else (none)) else (none))
def impl_Strike.f (k : Nat) (l0_0 : List (S54)) (a0_1 : Int) (a0_2 : Int) (a0_3 : Int) (a0_4 : Int) (a0_5 : Int) (a0_6 : Int) : Option ((List (S54)) × Int × Int × Int × Int × Int × Int × Bool) := (impl_BookOk.f l0_0 a0_1 a0_2 a0_3 a0_4 a0_5 a0_6).bind fun t103 => (if t103 = true then (impl_Strike.j0 k ((l0_0.length : Int) == 0) l0_0 a0_1 a0_2 a0_3 a0_4 a0_5 a0_6) else (impl_Strike.j0 k true l0_0 a0_1 a0_2 a0_3 a0_4 a0_5 a0_6))
theorem impl_Strike.mono_l : ∀ k, (∀ y0 y1 y2 y3 y4 y5 y6 y7, LeO (impl_Strike.j0 k y0 y1 y2 y3 y4 y5 y6 y7) (impl_Strike.j0 (k + 1) y0 y1 y2 y3 y4 y5 y6 y7))
  | 0 => fun _ _ _ _ _ _ _ _ r h => by simp [impl_Strike.j0] at h
  | k + 1 => by
    have ih0 := impl_Strike.mono_l k
    · intro y0 y1 y2 y3 y4 y5 y6 y7
      unfold impl_Strike.j0
      repeat' first
      | (with_reducible exact ih0 _ _ _ _ _ _ _ _)
      | (with_reducible exact LeO.refl _)
      | (with_reducible exact LeO.none _)
      | (with_reducible refine LeO.ite ?_ ?_)
      | (with_reducible refine LeO.bind ?_ (fun _ => ?_))
      | exact ih0 _ _ _ _ _ _ _ _
      | exact LeO.none _
      | refine LeO.ite ?_ ?_
      | refine LeO.bind ?_ (fun _ => ?_)
theorem impl_Strike.mono : ∀ a0 a1 a2 a3 a4 a5 a6 k, LeO (impl_Strike.f k a0 a1 a2 a3 a4 a5 a6) (impl_Strike.f (k + 1) a0 a1 a2 a3 a4 a5 a6) := by
  intro a0 a1 a2 a3 a4 a5 a6 k
  have ih0 := impl_Strike.mono_l k
  unfold impl_Strike.f
  repeat' first
      | (with_reducible exact ih0 _ _ _ _ _ _ _ _)
      | (with_reducible exact LeO.refl _)
      | (with_reducible exact LeO.none _)
      | (with_reducible refine LeO.ite ?_ ?_)
      | (with_reducible refine LeO.bind ?_ (fun _ => ?_))
      | exact ih0 _ _ _ _ _ _ _ _
      | exact LeO.none _
      | refine LeO.ite ?_ ?_
      | refine LeO.bind ?_ (fun _ => ?_)
set_option maxHeartbeats 8000000 in
set_option maxRecDepth 100000 in
theorem impl_Strike.calls (k : Nat) (A0_0 : Option Addr) (c0_0 : Nat) (l0_0 : List (S54)) (a0_1 : Int) (a0_2 : Int) (a0_3 : Int) (a0_4 : Int) (a0_5 : Int) (a0_6 : Int) (r1 : List (S54)) (r2 : Int) (r3 : Int) (r4 : Int) (r5 : Int) (r6 : Int) (r7 : Int) (r8 : Bool) (w : World) (hr0_0 : Kd.C k54 w A0_0 l0_0.length l0_0) (hc0_0 : l0_0.length ≤ c0_0) (h : impl_Strike.f k l0_0 a0_1 a0_2 a0_3 a0_4 a0_5 a0_6 = some (r1, r2, r3, r4, r5, r6, r7, r8)) :
    Calls Try.prog 19 #[.agg #[.slice A0_0 l0_0.length c0_0, .int .i64 a0_1, .int .i64 a0_2, .int .i64 a0_3, .int .i64 a0_4, .int .i64 a0_5, .int .i64 a0_6]] w fun e w' => ∃ v0_ : Value, e = .returned (.tuple #[.agg #[v0_, .int .i64 r2, .int .i64 r3, .int .i64 r4, .int .i64 r5, .int .i64 r6, .int .i64 r7], .bool r8]) ∧ Kd.R k54 54 w' w.heap.size (fun _ => True) v0_ r1 ∧ Below w.heap.size w w' := by
  have hu35 := Try.underlying35
  have HR0_0 := Aside0.mk hr0_0
  have HC0_0 := Aside0.mk hc0_0
  clear hr0_0 hc0_0
  have HB := Aside0.mk (Below.refl w.heap.size w)
  have H : ((impl_BookOk.f l0_0 a0_1 a0_2 a0_3 a0_4 a0_5 a0_6).bind fun t103 => (if t103 = true then (impl_Strike.j0 k ((l0_0.length : Int) == 0) l0_0 a0_1 a0_2 a0_3 a0_4 a0_5 a0_6) else (impl_Strike.j0 k true l0_0 a0_1 a0_2 a0_3 a0_4 a0_5 a0_6))) = some (r1, r2, r3, r4, r5, r6, r7, r8) := h
  clear h
  have HC2 := Aside0.mk H
  clear H
  go_enter Try.func19, Try.ntmps19
  go_upto_region 1 with (first | ((with_reducible refine gate_dst (N := 1) rfl ?_); (try (refine gate_guard (by rfl) ?_; dsimp only)); refine box_event ?hg (N := 1) ?hd (cs := #[.slice A0_0 l0_0.length c0_0, .int .i64 a0_1, .int .i64 a0_2, .int .i64 a0_3, .int .i64 a0_4, .int .i64 a0_5, .int .i64 a0_6]) (t := 35) ?hr ?_; (case hd => rfl); (case hg => rfl); (case hr => first | (go_simp; done) | (go_simp; rfl)); intro gb101 hg w3 hbox hb; have n0_ := Aside0.mk (below_step (by repeat (first | (with_reducible first | exact HB.out | apply below_alloc | apply pw_below_drewN | apply below_drew1) | exact HB.out)) hb); have n1_ := Aside0.mk (hbox); have n2_ := Aside0.mk ((by rw [hg]; exact (below_size (by repeat (first | (with_reducible first | exact HB.out | apply below_alloc | apply pw_below_drewN | apply below_drew1) | exact HB.out))) : w.heap.size ≤ gb101)); have n3_ := Aside0.mk ((by rw [hg]; exact (below_size (by repeat (first | (with_reducible first | exact HB.out | apply below_alloc | apply pw_below_drewN | apply below_drew1) | exact HB.out))) : w.heap.size ≤ gb101)); clear HB; have HB := n0_; have BK101 := n1_; have GW101 := n2_; have GE101 := n3_; clear n0_ n1_ n2_ n3_; clear hb hbox hg) | ((with_reducible refine gate_dst (N := 2) rfl ?_); (try (refine gate_guard (by rfl) ?_; dsimp only)); refine box_event ?hg (N := 2) ?hd (cs := #[.slice none 0 0, .int .i64 0, .int .i64 0, .int .i64 0, .int .i64 0, .int .i64 0, .int .i64 0]) (t := 35) ?hr ?_; (case hd => rfl); (case hg => rfl); (case hr => first | (go_simp; done) | (go_simp; rfl)); intro gb102 hg w4 hbox hb; have n0_ := Aside0.mk (blk_below (g := gb101) (o := .cells #[.slice A0_0 l0_0.length c0_0, .int .i64 a0_1, .int .i64 a0_2, .int .i64 a0_3, .int .i64 a0_4, .int .i64 a0_5, .int .i64 a0_6] 35 (0, 0)) (by (with_reducible repeat (first | refine blk_drewN ?_ _ | refine blk_drew ?_ | refine blk_alloc ?_ _)); exact BK101.out) hb); have n1_ := Aside0.mk (below_step (by repeat (first | (with_reducible first | exact HB.out | apply below_alloc | apply pw_below_drewN | apply below_drew1 | refine below_set ?_ GE101.out) | exact HB.out)) hb); have n2_ := Aside0.mk (hbox); have n3_ := Aside0.mk ((by rw [hg]; exact (below_size (by repeat (first | (with_reducible first | exact HB.out | apply below_alloc | apply pw_below_drewN | apply below_drew1 | refine below_set ?_ GE101.out) | exact HB.out))) : w.heap.size ≤ gb102)); have n4_ := Aside0.mk ((by rw [hg]; exact (below_size (by repeat (first | (with_reducible first | exact HB.out | apply below_alloc | apply pw_below_drewN | apply below_drew1 | refine below_set ?_ GE101.out) | exact HB.out))) : w.heap.size ≤ gb102)); have n5_ := Aside0.mk ((by rw [hg]; exact Nat.ne_of_lt (blk_lt (g := gb101) (o := .cells #[.slice A0_0 l0_0.length c0_0, .int .i64 a0_1, .int .i64 a0_2, .int .i64 a0_3, .int .i64 a0_4, .int .i64 a0_5, .int .i64 a0_6] 35 (0, 0)) (by (with_reducible repeat (first | refine blk_drewN ?_ _ | refine blk_drew ?_ | refine blk_alloc ?_ _)); exact BK101.out)) : gb101 ≠ gb102)); have n6_ := Aside0.mk ((by rw [hg]; exact Nat.ne_of_gt (blk_lt (g := gb101) (o := .cells #[.slice A0_0 l0_0.length c0_0, .int .i64 a0_1, .int .i64 a0_2, .int .i64 a0_3, .int .i64 a0_4, .int .i64 a0_5, .int .i64 a0_6] 35 (0, 0)) (by (with_reducible repeat (first | refine blk_drewN ?_ _ | refine blk_drew ?_ | refine blk_alloc ?_ _)); exact BK101.out)) : gb102 ≠ gb101)); clear BK101; clear HB; have BK101 := n0_; have HB := n1_; have BK102 := n2_; have GW102 := n3_; have GE102 := n4_; have NB101_102 := n5_; have NB102_101 := n6_; clear n0_ n1_ n2_ n3_ n4_ n5_ n6_; clear hb hbox hg))
  (try simp only [Act.put, List.setIfInBounds_toArray, List.set_cons_zero, List.set_cons_succ])
  go_cut [12] (fun v12 wc => ∃ (kq : Nat) (x12_1 : Bool), v12 = .bool x12_1 ∧ Aside0 (impl_Strike.j0 kq x12_1 l0_0 a0_1 a0_2 a0_3 a0_4 a0_5 a0_6 = some (r1, r2, r3, r4, r5, r6, r7, r8)) ∧ Aside0 (kq ≤ k) ∧ Aside0 (wc.heap[gb101]? = some (.cells #[(.slice A0_0 l0_0.length c0_0), .int .i64 a0_1, .int .i64 a0_2, .int .i64 a0_3, .int .i64 a0_4, .int .i64 a0_5, .int .i64 a0_6] 35 (0, 0))) ∧ Aside0 (wc.heap[gb102]? = some (.cells #[(.slice none 0 0), .int .i64 0, .int .i64 0, .int .i64 0, .int .i64 0, .int .i64 0, .int .i64 0] 35 (0, 0))) ∧ Aside0 (Below w.heap.size w wc))
  case first =>
    have H := HC2.out
    clear HC2
    replace H := Option.bind_eq_some_iff.mp H
    obtain ⟨t103, A50, H⟩ := H
    replace H : (if t103 = true then (impl_Strike.j0 k ((l0_0.length : Int) == 0) l0_0 a0_1 a0_2 a0_3 a0_4 a0_5 a0_6) else (impl_Strike.j0 k true l0_0 a0_1 a0_2 a0_3 a0_4 a0_5 a0_6)) = some (r1, r2, r3, r4, r5, r6, r7, r8) := H
    have A5 := Aside0.mk A50
    clear A50
    by_cases c6 : t103 = true
    · subst c6
      have H1 : (impl_Strike.j0 k ((l0_0.length : Int) == 0) l0_0 a0_1 a0_2 a0_3 a0_4 a0_5 a0_6) = some (r1, r2, r3, r4, r5, r6, r7, r8) := by rw [if_pos rfl] at H; exact H
      clear H
      have H := H1
      clear H1
      have H' := Aside0.mk H
      clear H
      have hnb7 := NB101_102.out
      have hnc7 := NB102_101.out
      have hcz8_0 : w4.cell? ⟨gb101, 0, none⟩ = some (.slice A0_0 l0_0.length c0_0) := (blk_cell BK101.out 0).trans rfl
      have hcz8_1 : w4.cell? ⟨gb101, 1, none⟩ = some (.int .i64 a0_1) := (blk_cell BK101.out 1).trans rfl
      have hcz8_2 : w4.cell? ⟨gb101, 2, none⟩ = some (.int .i64 a0_2) := (blk_cell BK101.out 2).trans rfl
      have hcz8_3 : w4.cell? ⟨gb101, 3, none⟩ = some (.int .i64 a0_3) := (blk_cell BK101.out 3).trans rfl
      have hcz8_4 : w4.cell? ⟨gb101, 4, none⟩ = some (.int .i64 a0_4) := (blk_cell BK101.out 4).trans rfl
      have hcz8_5 : w4.cell? ⟨gb101, 5, none⟩ = some (.int .i64 a0_5) := (blk_cell BK101.out 5).trans rfl
      have hcz8_6 : w4.cell? ⟨gb101, 6, none⟩ = some (.int .i64 a0_6) := (blk_cell BK101.out 6).trans rfl
      have hfz8_0 := blk_frozen BK101.out 0
      have hfz8_1 := blk_frozen BK101.out 1
      have hfz8_2 := blk_frozen BK101.out 2
      have hfz8_3 := blk_frozen BK101.out 3
      have hfz8_4 := blk_frozen BK101.out 4
      have hfz8_5 := blk_frozen BK101.out 5
      have hfz8_6 := blk_frozen BK101.out 6
      go_wp2_with (first | ((with_reducible refine gate_callee (f := 15) rfl ?_); refine goesL_ (some 5) rfl rfl Try.func15 (by kernel_rfl) rfl #[.agg #[.slice A0_0 l0_0.length c0_0, .int .i64 a0_1, .int .i64 a0_2, .int .i64 a0_3, .int .i64 a0_4, .int .i64 a0_5, .int .i64 a0_6]] rfl (by (try simp only [List.map_toArray, List.map_cons, List.map_nil]); first | done | rfl | (simp only [List.length_drop, List.length_take]; rfl)) ?_; (with_reducible refine (impl_BookOk.calls _ _ l0_0 a0_1 a0_2 a0_3 a0_4 a0_5 a0_6 true _ ?side1 ?side2 A5.out).mono ?_); (case side1 => repeat (first | exact (Kd.C_below HR0_0.out HB.out) | (with_reducible refine Kd.C_alloc ?_ _) | (with_reducible refine Kd.C_drewN ?_ _) | (with_reducible refine Kd.C_drew ?_))); (case side2 => exact HC0_0.out); rintro e w9 ⟨rfl, hb⟩; refine ⟨_, rfl, ?_⟩; have n0_ := Aside0.mk (blk_below (g := gb101) (o := .cells #[.slice A0_0 l0_0.length c0_0, .int .i64 a0_1, .int .i64 a0_2, .int .i64 a0_3, .int .i64 a0_4, .int .i64 a0_5, .int .i64 a0_6] 35 (0, 0)) (by (with_reducible repeat (first | refine blk_drewN ?_ _ | refine blk_drew ?_ | refine blk_alloc ?_ _)); exact BK101.out) hb); have n1_ := Aside0.mk (blk_below (g := gb102) (o := .cells #[.slice none 0 0, .int .i64 0, .int .i64 0, .int .i64 0, .int .i64 0, .int .i64 0, .int .i64 0] 35 (0, 0)) (by (with_reducible repeat (first | refine blk_drewN ?_ _ | refine blk_drew ?_ | refine blk_alloc ?_ _)); exact BK102.out) hb); have n2_ := Aside0.mk (below_step (by repeat (first | (with_reducible first | exact HB.out | apply below_alloc | apply pw_below_drewN | apply below_drew1 | refine below_set ?_ GE101.out | refine below_set ?_ GE102.out) | exact HB.out)) hb); clear BK101; clear BK102; clear HB; have BK101 := n0_; have BK102 := n1_; have HB := n2_; clear n0_ n1_ n2_; (try clear hb); (try clear hb2); (try clear hk); (try clear hi); have hcz10_0 : w9.cell? ⟨gb101, 0, none⟩ = some (.slice A0_0 l0_0.length c0_0) := (blk_cell BK101.out 0).trans rfl; have hcz10_1 : w9.cell? ⟨gb101, 1, none⟩ = some (.int .i64 a0_1) := (blk_cell BK101.out 1).trans rfl; have hcz10_2 : w9.cell? ⟨gb101, 2, none⟩ = some (.int .i64 a0_2) := (blk_cell BK101.out 2).trans rfl; have hcz10_3 : w9.cell? ⟨gb101, 3, none⟩ = some (.int .i64 a0_3) := (blk_cell BK101.out 3).trans rfl; have hcz10_4 : w9.cell? ⟨gb101, 4, none⟩ = some (.int .i64 a0_4) := (blk_cell BK101.out 4).trans rfl; have hcz10_5 : w9.cell? ⟨gb101, 5, none⟩ = some (.int .i64 a0_5) := (blk_cell BK101.out 5).trans rfl; have hcz10_6 : w9.cell? ⟨gb101, 6, none⟩ = some (.int .i64 a0_6) := (blk_cell BK101.out 6).trans rfl; have hfz10_0 := blk_frozen BK101.out 0; have hfz10_1 := blk_frozen BK101.out 1; have hfz10_2 := blk_frozen BK101.out 2; have hfz10_3 := blk_frozen BK101.out 3; have hfz10_4 := blk_frozen BK101.out 4; have hfz10_5 := blk_frozen BK101.out 5; have hfz10_6 := blk_frozen BK101.out 6))
      go_meet
      case rel => exact ⟨_, (((l0_0.length : Int) == 0)), (by first | rfl | (simp; done) | (simp [*]; done)), H', ⟨by first | omega | exact Nat.le_refl _⟩, ⟨by (with_reducible repeat (first | refine blk_drewN ?_ _ | refine blk_drew ?_ | refine blk_alloc ?_ _)); exact BK101.out⟩, ⟨by (with_reducible repeat (first | refine blk_drewN ?_ _ | refine blk_drew ?_ | refine blk_alloc ?_ _)); exact BK102.out⟩, ⟨by repeat (first | (with_reducible first | exact HB.out | apply below_alloc | apply pw_below_drewN | apply below_drew1 | refine below_set ?_ GE101.out | refine below_set ?_ GE102.out) | exact HB.out)⟩⟩
    · replace c6 := Bool.eq_false_iff.mpr c6
      subst c6
      have H1 : (impl_Strike.j0 k true l0_0 a0_1 a0_2 a0_3 a0_4 a0_5 a0_6) = some (r1, r2, r3, r4, r5, r6, r7, r8) := by rw [if_neg (show ¬ (false = true) by decide)] at H; exact H
      clear H
      have H := H1
      clear H1
      have H' := Aside0.mk H
      clear H
      have hnb11 := NB101_102.out
      have hnc11 := NB102_101.out
      have hcz12_0 : w4.cell? ⟨gb101, 0, none⟩ = some (.slice A0_0 l0_0.length c0_0) := (blk_cell BK101.out 0).trans rfl
      have hcz12_1 : w4.cell? ⟨gb101, 1, none⟩ = some (.int .i64 a0_1) := (blk_cell BK101.out 1).trans rfl
      have hcz12_2 : w4.cell? ⟨gb101, 2, none⟩ = some (.int .i64 a0_2) := (blk_cell BK101.out 2).trans rfl
      have hcz12_3 : w4.cell? ⟨gb101, 3, none⟩ = some (.int .i64 a0_3) := (blk_cell BK101.out 3).trans rfl
      have hcz12_4 : w4.cell? ⟨gb101, 4, none⟩ = some (.int .i64 a0_4) := (blk_cell BK101.out 4).trans rfl
      have hcz12_5 : w4.cell? ⟨gb101, 5, none⟩ = some (.int .i64 a0_5) := (blk_cell BK101.out 5).trans rfl
      have hcz12_6 : w4.cell? ⟨gb101, 6, none⟩ = some (.int .i64 a0_6) := (blk_cell BK101.out 6).trans rfl
      have hfz12_0 := blk_frozen BK101.out 0
      have hfz12_1 := blk_frozen BK101.out 1
      have hfz12_2 := blk_frozen BK101.out 2
      have hfz12_3 := blk_frozen BK101.out 3
      have hfz12_4 := blk_frozen BK101.out 4
      have hfz12_5 := blk_frozen BK101.out 5
      have hfz12_6 := blk_frozen BK101.out 6
      go_wp2_with (first | ((with_reducible refine gate_callee (f := 15) rfl ?_); refine goesL_ (some 5) rfl rfl Try.func15 (by kernel_rfl) rfl #[.agg #[.slice A0_0 l0_0.length c0_0, .int .i64 a0_1, .int .i64 a0_2, .int .i64 a0_3, .int .i64 a0_4, .int .i64 a0_5, .int .i64 a0_6]] rfl (by (try simp only [List.map_toArray, List.map_cons, List.map_nil]); first | done | rfl | (simp only [List.length_drop, List.length_take]; rfl)) ?_; (with_reducible refine (impl_BookOk.calls _ _ l0_0 a0_1 a0_2 a0_3 a0_4 a0_5 a0_6 false _ ?side1 ?side2 A5.out).mono ?_); (case side1 => repeat (first | exact (Kd.C_below HR0_0.out HB.out) | (with_reducible refine Kd.C_alloc ?_ _) | (with_reducible refine Kd.C_drewN ?_ _) | (with_reducible refine Kd.C_drew ?_))); (case side2 => exact HC0_0.out); rintro e w13 ⟨rfl, hb⟩; refine ⟨_, rfl, ?_⟩; have n0_ := Aside0.mk (blk_below (g := gb101) (o := .cells #[.slice A0_0 l0_0.length c0_0, .int .i64 a0_1, .int .i64 a0_2, .int .i64 a0_3, .int .i64 a0_4, .int .i64 a0_5, .int .i64 a0_6] 35 (0, 0)) (by (with_reducible repeat (first | refine blk_drewN ?_ _ | refine blk_drew ?_ | refine blk_alloc ?_ _)); exact BK101.out) hb); have n1_ := Aside0.mk (blk_below (g := gb102) (o := .cells #[.slice none 0 0, .int .i64 0, .int .i64 0, .int .i64 0, .int .i64 0, .int .i64 0, .int .i64 0] 35 (0, 0)) (by (with_reducible repeat (first | refine blk_drewN ?_ _ | refine blk_drew ?_ | refine blk_alloc ?_ _)); exact BK102.out) hb); have n2_ := Aside0.mk (below_step (by repeat (first | (with_reducible first | exact HB.out | apply below_alloc | apply pw_below_drewN | apply below_drew1 | refine below_set ?_ GE101.out | refine below_set ?_ GE102.out) | exact HB.out)) hb); clear BK101; clear BK102; clear HB; have BK101 := n0_; have BK102 := n1_; have HB := n2_; clear n0_ n1_ n2_; (try clear hb); (try clear hb2); (try clear hk); (try clear hi)))
      go_meet
      case rel => exact ⟨_, (true), (by first | rfl | (simp; done) | (simp [*]; done)), H', ⟨by first | omega | exact Nat.le_refl _⟩, ⟨by (with_reducible repeat (first | refine blk_drewN ?_ _ | refine blk_drew ?_ | refine blk_alloc ?_ _)); exact BK101.out⟩, ⟨by (with_reducible repeat (first | refine blk_drewN ?_ _ | refine blk_drew ?_ | refine blk_alloc ?_ _)); exact BK102.out⟩, ⟨by repeat (first | (with_reducible first | exact HB.out | apply below_alloc | apply pw_below_drewN | apply below_drew1 | refine below_set ?_ GE101.out | refine below_set ?_ GE102.out) | exact HB.out)⟩⟩
  case rest =>
    clear HC2
    try clear c1
    try clear p2
    try clear c6
    try clear c7
    try clear c11
    try clear hcz10_0
    try clear hcz10_1
    try clear hcz10_2
    try clear hcz10_3
    try clear hcz10_4
    try clear hcz10_5
    try clear hcz10_6
    try clear hcz12_0
    try clear hcz12_1
    try clear hcz12_2
    try clear hcz12_3
    try clear hcz12_4
    try clear hcz12_5
    try clear hcz12_6
    try clear hcz8_0
    try clear hcz8_1
    try clear hcz8_2
    try clear hcz8_3
    try clear hcz8_4
    try clear hcz8_5
    try clear hcz8_6
    try clear hfz10_0
    try clear hfz10_1
    try clear hfz10_2
    try clear hfz10_3
    try clear hfz10_4
    try clear hfz10_5
    try clear hfz10_6
    try clear hfz12_0
    try clear hfz12_1
    try clear hfz12_2
    try clear hfz12_3
    try clear hfz12_4
    try clear hfz12_5
    try clear hfz12_6
    try clear hfz8_0
    try clear hfz8_1
    try clear hfz8_2
    try clear hfz8_3
    try clear hfz8_4
    try clear hfz8_5
    try clear hfz8_6
    obtain ⟨kq, x12_1, rfl, HA, HJ1, BK101, BK102, HB⟩ := hcut
    cases kq with
    | zero => exact absurd HA.out (by simp [impl_Strike.j0])
    | succ kj1 =>
      have H := HA.out
      clear HA
      simp only [impl_Strike.j0] at H
      by_cases c14 : x12_1 = true
      · subst c14
        have H1 : ((impl_bookCopy.f l0_0 a0_1 a0_2 a0_3 a0_4 a0_5 a0_6).bind fun bt104 => (some (bt104.1, bt104.2.1, bt104.2.2.1, bt104.2.2.2.1, bt104.2.2.2.2.1, bt104.2.2.2.2.2.1, bt104.2.2.2.2.2.2, false))) = some (r1, r2, r3, r4, r5, r6, r7, r8) := by rw [if_pos rfl] at H; exact H
        clear H
        have H := H1
        clear H1
        replace H := Option.bind_eq_some_iff.mp H
        obtain ⟨⟨t104, t107, t108, t109, t110, t111, t112⟩, A150, H⟩ := H
        replace H : (some (t104, t107, t108, t109, t110, t111, t112, false)) = some (r1, r2, r3, r4, r5, r6, r7, r8) := H
        have A15 := Aside0.mk A150
        clear A150
        simp only [Option.some.injEq, Prod.mk.injEq] at H
        obtain ⟨rfl, rfl, rfl, rfl, rfl, rfl, rfl, rfl⟩ := H
        have hnb16 := NB101_102.out
        have hnc16 := NB102_101.out
        have hcz17_0 : wc.cell? ⟨gb101, 0, none⟩ = some (.slice A0_0 l0_0.length c0_0) := (blk_cell BK101.out 0).trans rfl
        have hcz17_1 : wc.cell? ⟨gb101, 1, none⟩ = some (.int .i64 a0_1) := (blk_cell BK101.out 1).trans rfl
        have hcz17_2 : wc.cell? ⟨gb101, 2, none⟩ = some (.int .i64 a0_2) := (blk_cell BK101.out 2).trans rfl
        have hcz17_3 : wc.cell? ⟨gb101, 3, none⟩ = some (.int .i64 a0_3) := (blk_cell BK101.out 3).trans rfl
        have hcz17_4 : wc.cell? ⟨gb101, 4, none⟩ = some (.int .i64 a0_4) := (blk_cell BK101.out 4).trans rfl
        have hcz17_5 : wc.cell? ⟨gb101, 5, none⟩ = some (.int .i64 a0_5) := (blk_cell BK101.out 5).trans rfl
        have hcz17_6 : wc.cell? ⟨gb101, 6, none⟩ = some (.int .i64 a0_6) := (blk_cell BK101.out 6).trans rfl
        have hfz17_0 := blk_frozen BK101.out 0
        have hfz17_1 := blk_frozen BK101.out 1
        have hfz17_2 := blk_frozen BK101.out 2
        have hfz17_3 := blk_frozen BK101.out 3
        have hfz17_4 := blk_frozen BK101.out 4
        have hfz17_5 := blk_frozen BK101.out 5
        have hfz17_6 := blk_frozen BK101.out 6
        go_wp2_with (first | ((with_reducible refine gate_callee (f := 56) rfl ?_); refine goesL_ (some 14) rfl rfl Try.func56 (by kernel_rfl) rfl #[.agg #[.slice A0_0 l0_0.length c0_0, .int .i64 a0_1, .int .i64 a0_2, .int .i64 a0_3, .int .i64 a0_4, .int .i64 a0_5, .int .i64 a0_6]] rfl (by (try simp only [List.map_toArray, List.map_cons, List.map_nil]); first | done | rfl | (simp only [List.length_drop, List.length_take]; rfl)) ?_; (with_reducible refine (impl_bookCopy.calls _ _ l0_0 a0_1 a0_2 a0_3 a0_4 a0_5 a0_6 t104 t107 t108 t109 t110 t111 t112 _ ?side1 ?side2 A15.out).mono ?_); (case side1 => repeat (first | exact (Kd.C_below HR0_0.out HB.out) | (with_reducible refine Kd.C_alloc ?_ _) | (with_reducible refine Kd.C_drewN ?_ _) | (with_reducible refine Kd.C_drew ?_))); (case side2 => exact HC0_0.out); rintro e w18 ⟨v105, rfl, ho0, hb⟩; refine ⟨_, rfl, ?_⟩; have n0_ := Aside0.mk (Kd.R_lower ho0 (below_size (by repeat (first | (with_reducible first | exact HB.out | apply below_alloc | apply pw_below_drewN | apply below_drew1 | refine below_set ?_ GE101.out | refine below_set ?_ GE102.out) | exact HB.out)))); have n1_ := Aside0.mk (blk_below (g := gb101) (o := .cells #[.slice A0_0 l0_0.length c0_0, .int .i64 a0_1, .int .i64 a0_2, .int .i64 a0_3, .int .i64 a0_4, .int .i64 a0_5, .int .i64 a0_6] 35 (0, 0)) (by (with_reducible repeat (first | refine blk_drewN ?_ _ | refine blk_drew ?_ | refine blk_alloc ?_ _)); exact BK101.out) hb); have n2_ := Aside0.mk (blk_below (g := gb102) (o := .cells #[.slice none 0 0, .int .i64 0, .int .i64 0, .int .i64 0, .int .i64 0, .int .i64 0, .int .i64 0] 35 (0, 0)) (by (with_reducible repeat (first | refine blk_drewN ?_ _ | refine blk_drew ?_ | refine blk_alloc ?_ _)); exact BK102.out) hb); have n3_ := Aside0.mk (below_step (by repeat (first | (with_reducible first | exact HB.out | apply below_alloc | apply pw_below_drewN | apply below_drew1 | refine below_set ?_ GE101.out | refine below_set ?_ GE102.out) | exact HB.out)) hb); clear BK101; clear BK102; clear HB; have HO106 := n0_; have BK101 := n1_; have BK102 := n2_; have HB := n3_; clear n0_ n1_ n2_ n3_; (try clear hb); (try clear hb2); (try clear hk); (try clear hi); (try clear ho0); obtain ⟨Ao19, co19, eo19⟩ := Kd.R_slice HO106.out; subst eo19; have hcz20_0 : w18.cell? ⟨gb102, 0, none⟩ = some (.slice none 0 0) := (blk_cell BK102.out 0).trans rfl; have hcz20_1 : w18.cell? ⟨gb102, 1, none⟩ = some (.int .i64 0) := (blk_cell BK102.out 1).trans rfl; have hcz20_2 : w18.cell? ⟨gb102, 2, none⟩ = some (.int .i64 0) := (blk_cell BK102.out 2).trans rfl; have hcz20_3 : w18.cell? ⟨gb102, 3, none⟩ = some (.int .i64 0) := (blk_cell BK102.out 3).trans rfl; have hcz20_4 : w18.cell? ⟨gb102, 4, none⟩ = some (.int .i64 0) := (blk_cell BK102.out 4).trans rfl; have hcz20_5 : w18.cell? ⟨gb102, 5, none⟩ = some (.int .i64 0) := (blk_cell BK102.out 5).trans rfl; have hcz20_6 : w18.cell? ⟨gb102, 6, none⟩ = some (.int .i64 0) := (blk_cell BK102.out 6).trans rfl; have hfz20_0 := blk_frozen BK102.out 0; have hfz20_1 := blk_frozen BK102.out 1; have hfz20_2 := blk_frozen BK102.out 2; have hfz20_3 := blk_frozen BK102.out 3; have hfz20_4 := blk_frozen BK102.out 4; have hfz20_5 := blk_frozen BK102.out 5; have hfz20_6 := blk_frozen BK102.out 6))
        refine bodyPost_ret (results_ct rfl _ _ gb102 35 #[.slice Ao19 t104.length co19, .int .i64 t107, .int .i64 t108, .int .i64 t109, .int .i64 t110, .int .i64 t111, .int .i64 t112] (0, 0) _ rfl (by (with_reducible repeat (first | refine blk_drewN ?_ _ | refine blk_drew ?_ | refine blk_alloc ?_ _)); refine blk_put (cs := #[.slice Ao19 t104.length co19, .int .i64 t107, .int .i64 t108, .int .i64 t109, .int .i64 t110, .int .i64 t111, .int .i64 0]) ?_ 6 _ rfl; (with_reducible repeat (first | refine blk_drewN ?_ _ | refine blk_drew ?_ | refine blk_alloc ?_ _)); refine blk_put (cs := #[.slice Ao19 t104.length co19, .int .i64 t107, .int .i64 t108, .int .i64 t109, .int .i64 t110, .int .i64 0, .int .i64 0]) ?_ 5 _ rfl; (with_reducible repeat (first | refine blk_drewN ?_ _ | refine blk_drew ?_ | refine blk_alloc ?_ _)); refine blk_put (cs := #[.slice Ao19 t104.length co19, .int .i64 t107, .int .i64 t108, .int .i64 t109, .int .i64 0, .int .i64 0, .int .i64 0]) ?_ 4 _ rfl; (with_reducible repeat (first | refine blk_drewN ?_ _ | refine blk_drew ?_ | refine blk_alloc ?_ _)); refine blk_put (cs := #[.slice Ao19 t104.length co19, .int .i64 t107, .int .i64 t108, .int .i64 0, .int .i64 0, .int .i64 0, .int .i64 0]) ?_ 3 _ rfl; (with_reducible repeat (first | refine blk_drewN ?_ _ | refine blk_drew ?_ | refine blk_alloc ?_ _)); refine blk_put (cs := #[.slice Ao19 t104.length co19, .int .i64 t107, .int .i64 0, .int .i64 0, .int .i64 0, .int .i64 0, .int .i64 0]) ?_ 2 _ rfl; (with_reducible repeat (first | refine blk_drewN ?_ _ | refine blk_drew ?_ | refine blk_alloc ?_ _)); refine blk_put (cs := #[.slice Ao19 t104.length co19, .int .i64 0, .int .i64 0, .int .i64 0, .int .i64 0, .int .i64 0, .int .i64 0]) ?_ 1 _ rfl; (with_reducible repeat (first | refine blk_drewN ?_ _ | refine blk_drew ?_ | refine blk_alloc ?_ _)); refine blk_put (cs := #[.slice none 0 0, .int .i64 0, .int .i64 0, .int .i64 0, .int .i64 0, .int .i64 0, .int .i64 0]) ?_ 0 _ rfl; (with_reducible repeat (first | refine blk_drewN ?_ _ | refine blk_drew ?_ | refine blk_alloc ?_ _)); exact BK102.out) Try.underlying35 rfl (by kernel_rfl)) rfl ?_
        exact ⟨_, by first | rfl | (simp [errW_none, errW_some] <;> rfl) | (simp [*, errW_none, errW_some] <;> rfl), by (with_reducible repeat (first | apply Kd.R_alloc | apply Kd.R_drewN | apply Kd.R_drew)); exact Kd.R_mono (Kd.R_far (p := ⟨gb102, 6, none⟩) (Kd.R_far (p := ⟨gb102, 5, none⟩) (Kd.R_far (p := ⟨gb102, 4, none⟩) (Kd.R_far (p := ⟨gb102, 3, none⟩) (Kd.R_far (p := ⟨gb102, 2, none⟩) (Kd.R_far (p := ⟨gb102, 1, none⟩) (Kd.R_far (p := ⟨gb102, 0, none⟩) (Kd.R_types HO106.out BK102.out (by decide)) (fun _ hk => hk.2) (.slice Ao19 t104.length co19)) (fun _ hk => hk.2) (.int .i64 t107)) (fun _ hk => hk.2) (.int .i64 t108)) (fun _ hk => hk.2) (.int .i64 t109)) (fun _ hk => hk.2) (.int .i64 t110)) (fun _ hk => hk.2) (.int .i64 t111)) (fun _ hk => hk.2) (.int .i64 t112)) (fun _ hk => trivial), by repeat (first | (with_reducible first | exact HB.out | apply below_alloc | apply pw_below_drewN | apply below_drew1 | refine below_set ?_ GE101.out | refine below_set ?_ GE102.out) | exact HB.out)⟩
      · replace c14 := Bool.eq_false_iff.mpr c14
        subst c14
        have H1 : (if 0 ≤ (wrap64 ((l0_0.length : Int) - 1)) then (if (wrap64 ((l0_0.length : Int) - 1)) ≤ (l0_0.length : Int) then ((impl_counted.f (l0_0.take ((wrap64 ((l0_0.length : Int) - 1)) : Int).toNat)).bind fun bt117 => (some (bt117.1, bt117.2.1, bt117.2.2.1, bt117.2.2.2.1, bt117.2.2.2.2.1, bt117.2.2.2.2.2.1, bt117.2.2.2.2.2.2.1, bt117.2.2.2.2.2.2.2))) else (none)) else (none)) = some (r1, r2, r3, r4, r5, r6, r7, r8) := by rw [if_neg (show ¬ (false = true) by decide)] at H; exact H
        clear H
        have H := H1
        clear H1
        obtain ⟨ji21, hji21⟩ : ∃ j_ : Int, (wrap64 ((l0_0.length : Int) - 1)) = j_ := ⟨_, rfl⟩
        replace H : (if 0 ≤ (ji21) then (if (ji21) ≤ (l0_0.length : Int) then ((impl_counted.f (l0_0.take ((ji21) : Int).toNat)).bind fun bt117 => (some (bt117.1, bt117.2.1, bt117.2.2.1, bt117.2.2.2.1, bt117.2.2.2.2.1, bt117.2.2.2.2.2.1, bt117.2.2.2.2.2.2.1, bt117.2.2.2.2.2.2.2))) else (none)) else (none)) = some (r1, r2, r3, r4, r5, r6, r7, r8) := by first | (rw [hji21] at H; exact H) | (simp only [hji21] at H ⊢; exact H)
        have hji21w : (IntKind.i64.wrap ((l0_0.length : Int) - 1)) = ji21 := (i64_w _).trans hji21
        by_cases c22 : 0 ≤ (ji21)
        · rw [if_pos c22] at H
          have c22b0 := eq_true c22
          have c22b1 : decide (0 ≤ (ji21)) = true := decide_eq_true c22
          clear c22
          by_cases c23 : (ji21) ≤ (l0_0.length : Int)
          · rw [if_pos c23] at H
            have c23b0 := eq_true c23
            have c23b1 : decide ((ji21) ≤ (l0_0.length : Int)) = true := decide_eq_true c23
            clear c23
            obtain ⟨y113, hy113⟩ : ∃ y_ : List (S54), y_ = (l0_0.take ((ji21) : Int).toNat) := ⟨_, rfl⟩
            replace H : ((impl_counted.f y113).bind fun bt117 => (some (bt117.1, bt117.2.1, bt117.2.2.1, bt117.2.2.2.1, bt117.2.2.2.2.1, bt117.2.2.2.2.2.1, bt117.2.2.2.2.2.2.1, bt117.2.2.2.2.2.2.2))) = some (r1, r2, r3, r4, r5, r6, r7, r8) := by first | (rw [hy113]; with_reducible exact H) | (have H2_ := (Option.bind_some _ _).symm.trans H; rw [hy113]; with_reducible exact H2_) | (have H2_ := (Option.bind_some _ _).symm.trans H; with_reducible exact H2_) | with_reducible exact H | (rw [hy113]; exact H) | exact H
            have Ny113 := Aside0.mk hy113
            clear hy113
            replace H := Option.bind_eq_some_iff.mp H
            obtain ⟨⟨t117, t120, t121, t122, t123, t124, t125, t126⟩, A240, H⟩ := H
            replace H : (some (t117, t120, t121, t122, t123, t124, t125, t126)) = some (r1, r2, r3, r4, r5, r6, r7, r8) := H
            have A24 := Aside0.mk A240
            clear A240
            simp only [Option.some.injEq, Prod.mk.injEq] at H
            obtain ⟨rfl, rfl, rfl, rfl, rfl, rfl, rfl, rfl⟩ := H
            have hnb25 := NB101_102.out
            have hnc25 := NB102_101.out
            have hcz26_0 : wc.cell? ⟨gb101, 0, none⟩ = some (.slice A0_0 l0_0.length c0_0) := (blk_cell BK101.out 0).trans rfl
            have hcz26_1 : wc.cell? ⟨gb101, 1, none⟩ = some (.int .i64 a0_1) := (blk_cell BK101.out 1).trans rfl
            have hcz26_2 : wc.cell? ⟨gb101, 2, none⟩ = some (.int .i64 a0_2) := (blk_cell BK101.out 2).trans rfl
            have hcz26_3 : wc.cell? ⟨gb101, 3, none⟩ = some (.int .i64 a0_3) := (blk_cell BK101.out 3).trans rfl
            have hcz26_4 : wc.cell? ⟨gb101, 4, none⟩ = some (.int .i64 a0_4) := (blk_cell BK101.out 4).trans rfl
            have hcz26_5 : wc.cell? ⟨gb101, 5, none⟩ = some (.int .i64 a0_5) := (blk_cell BK101.out 5).trans rfl
            have hcz26_6 : wc.cell? ⟨gb101, 6, none⟩ = some (.int .i64 a0_6) := (blk_cell BK101.out 6).trans rfl
            have hfz26_0 := blk_frozen BK101.out 0
            have hfz26_1 := blk_frozen BK101.out 1
            have hfz26_2 := blk_frozen BK101.out 2
            have hfz26_3 := blk_frozen BK101.out 3
            have hfz26_4 := blk_frozen BK101.out 4
            have hfz26_5 := blk_frozen BK101.out 5
            have hfz26_6 := blk_frozen BK101.out 6
            have q27 : ((ji21) : Int) ≤ ((l0_0.length : Int) : Int) := of_decide_eq_true (by first | (with_reducible assumption) | assumption)
            obtain ⟨i027, hi027, _, hsz27, _⟩ := info_parts info54
            have hroom27 : l0_0.length ≤ c0_0 := HC0_0.out
            have hC27 : Kd.C k54 _ A0_0 l0_0.length l0_0 := HR0_0.out
            have hcut27 := cut_to (P := Try.prog) 31 54 .i64 Try.underlying31 hi027 A0_0 l0_0.length c0_0 (ji21) (of_decide_eq_true (by first | (with_reducible assumption) | assumption)) q27 hroom27
            have hr27 := Kd.C_take (m := ((ji21) : Int).toNat) hC27 (by omega)
            have hy27 : y113.length = ((ji21) : Int).toNat := (by rw [Ny113.out, List.length_take]; omega)
            rw [← Ny113.out] at hr27
            rw [← hy27] at hcut27
            have HR116 := Aside0.mk hr27
            have HC116 := Aside0.mk (show y113.length ≤ c0_0 from by omega)
            clear hr27 hC27 hroom27 hi027 hsz27
            have KY27 := Aside0.mk hy27
            clear hy27
            replace q27 := eq_true q27
            go_wp2_with (first | ((with_reducible refine gate_callee (f := 54) rfl ?_); refine goesL_ (some 22) rfl rfl Try.func54 (by kernel_rfl) rfl #[.slice A0_0 y113.length c0_0] rfl (by (try simp only [List.map_toArray, List.map_cons, List.map_nil]); first | done | rfl | (simp only [List.length_drop, List.length_take]; rfl)) ?_; (with_reducible refine (impl_counted.calls _ _ y113 t117 t120 t121 t122 t123 t124 t125 t126 _ ?side1 ?side2 A24.out).mono ?_); (case side1 => repeat (first | exact (Kd.C_below HR116.out HB.out) | (with_reducible refine Kd.C_alloc ?_ _) | (with_reducible refine Kd.C_drewN ?_ _) | (with_reducible refine Kd.C_drew ?_))); (case side2 => exact HC116.out); rintro e w28 ⟨v118, rfl, ho0, hb⟩; refine ⟨_, rfl, ?_⟩; have n0_ := Aside0.mk (Kd.R_lower ho0 (below_size (by repeat (first | (with_reducible first | exact HB.out | apply below_alloc | apply pw_below_drewN | apply below_drew1 | refine below_set ?_ GE101.out | refine below_set ?_ GE102.out) | exact HB.out)))); have n1_ := Aside0.mk (blk_below (g := gb101) (o := .cells #[.slice A0_0 l0_0.length c0_0, .int .i64 a0_1, .int .i64 a0_2, .int .i64 a0_3, .int .i64 a0_4, .int .i64 a0_5, .int .i64 a0_6] 35 (0, 0)) (by (with_reducible repeat (first | refine blk_drewN ?_ _ | refine blk_drew ?_ | refine blk_alloc ?_ _)); exact BK101.out) hb); have n2_ := Aside0.mk (blk_below (g := gb102) (o := .cells #[.slice none 0 0, .int .i64 0, .int .i64 0, .int .i64 0, .int .i64 0, .int .i64 0, .int .i64 0] 35 (0, 0)) (by (with_reducible repeat (first | refine blk_drewN ?_ _ | refine blk_drew ?_ | refine blk_alloc ?_ _)); exact BK102.out) hb); have n3_ := Aside0.mk (below_step (by repeat (first | (with_reducible first | exact HB.out | apply below_alloc | apply pw_below_drewN | apply below_drew1 | refine below_set ?_ GE101.out | refine below_set ?_ GE102.out) | exact HB.out)) hb); clear BK101; clear BK102; clear HB; have HO119 := n0_; have BK101 := n1_; have BK102 := n2_; have HB := n3_; clear n0_ n1_ n2_ n3_; (try clear hb); (try clear hb2); (try clear hk); (try clear hi); (try clear ho0); obtain ⟨Ao29, co29, eo29⟩ := Kd.R_slice HO119.out; subst eo29; have hcz30_0 : w28.cell? ⟨gb102, 0, none⟩ = some (.slice none 0 0) := (blk_cell BK102.out 0).trans rfl; have hcz30_1 : w28.cell? ⟨gb102, 1, none⟩ = some (.int .i64 0) := (blk_cell BK102.out 1).trans rfl; have hcz30_2 : w28.cell? ⟨gb102, 2, none⟩ = some (.int .i64 0) := (blk_cell BK102.out 2).trans rfl; have hcz30_3 : w28.cell? ⟨gb102, 3, none⟩ = some (.int .i64 0) := (blk_cell BK102.out 3).trans rfl; have hcz30_4 : w28.cell? ⟨gb102, 4, none⟩ = some (.int .i64 0) := (blk_cell BK102.out 4).trans rfl; have hcz30_5 : w28.cell? ⟨gb102, 5, none⟩ = some (.int .i64 0) := (blk_cell BK102.out 5).trans rfl; have hcz30_6 : w28.cell? ⟨gb102, 6, none⟩ = some (.int .i64 0) := (blk_cell BK102.out 6).trans rfl; have hfz30_0 := blk_frozen BK102.out 0; have hfz30_1 := blk_frozen BK102.out 1; have hfz30_2 := blk_frozen BK102.out 2; have hfz30_3 := blk_frozen BK102.out 3; have hfz30_4 := blk_frozen BK102.out 4; have hfz30_5 := blk_frozen BK102.out 5; have hfz30_6 := blk_frozen BK102.out 6))
            refine bodyPost_ret (results_ct rfl _ _ gb102 35 #[.slice Ao29 t117.length co29, .int .i64 t120, .int .i64 t121, .int .i64 t122, .int .i64 t123, .int .i64 t124, .int .i64 t125] (0, 0) _ rfl (by (with_reducible repeat (first | refine blk_drewN ?_ _ | refine blk_drew ?_ | refine blk_alloc ?_ _)); refine blk_put (cs := #[.slice Ao29 t117.length co29, .int .i64 t120, .int .i64 t121, .int .i64 t122, .int .i64 t123, .int .i64 t124, .int .i64 0]) ?_ 6 _ rfl; (with_reducible repeat (first | refine blk_drewN ?_ _ | refine blk_drew ?_ | refine blk_alloc ?_ _)); refine blk_put (cs := #[.slice Ao29 t117.length co29, .int .i64 t120, .int .i64 t121, .int .i64 t122, .int .i64 t123, .int .i64 0, .int .i64 0]) ?_ 5 _ rfl; (with_reducible repeat (first | refine blk_drewN ?_ _ | refine blk_drew ?_ | refine blk_alloc ?_ _)); refine blk_put (cs := #[.slice Ao29 t117.length co29, .int .i64 t120, .int .i64 t121, .int .i64 t122, .int .i64 0, .int .i64 0, .int .i64 0]) ?_ 4 _ rfl; (with_reducible repeat (first | refine blk_drewN ?_ _ | refine blk_drew ?_ | refine blk_alloc ?_ _)); refine blk_put (cs := #[.slice Ao29 t117.length co29, .int .i64 t120, .int .i64 t121, .int .i64 0, .int .i64 0, .int .i64 0, .int .i64 0]) ?_ 3 _ rfl; (with_reducible repeat (first | refine blk_drewN ?_ _ | refine blk_drew ?_ | refine blk_alloc ?_ _)); refine blk_put (cs := #[.slice Ao29 t117.length co29, .int .i64 t120, .int .i64 0, .int .i64 0, .int .i64 0, .int .i64 0, .int .i64 0]) ?_ 2 _ rfl; (with_reducible repeat (first | refine blk_drewN ?_ _ | refine blk_drew ?_ | refine blk_alloc ?_ _)); refine blk_put (cs := #[.slice Ao29 t117.length co29, .int .i64 0, .int .i64 0, .int .i64 0, .int .i64 0, .int .i64 0, .int .i64 0]) ?_ 1 _ rfl; (with_reducible repeat (first | refine blk_drewN ?_ _ | refine blk_drew ?_ | refine blk_alloc ?_ _)); refine blk_put (cs := #[.slice none 0 0, .int .i64 0, .int .i64 0, .int .i64 0, .int .i64 0, .int .i64 0, .int .i64 0]) ?_ 0 _ rfl; (with_reducible repeat (first | refine blk_drewN ?_ _ | refine blk_drew ?_ | refine blk_alloc ?_ _)); exact BK102.out) Try.underlying35 rfl (by kernel_rfl)) rfl ?_
            exact ⟨_, by first | rfl | (simp [errW_none, errW_some] <;> rfl) | (simp only [← hji21]; first | rfl | (simp [errW_none, errW_some] <;> rfl)) | (simp [*, errW_none, errW_some] <;> rfl), by (with_reducible repeat (first | apply Kd.R_alloc | apply Kd.R_drewN | apply Kd.R_drew)); exact Kd.R_mono (Kd.R_far (p := ⟨gb102, 6, none⟩) (Kd.R_far (p := ⟨gb102, 5, none⟩) (Kd.R_far (p := ⟨gb102, 4, none⟩) (Kd.R_far (p := ⟨gb102, 3, none⟩) (Kd.R_far (p := ⟨gb102, 2, none⟩) (Kd.R_far (p := ⟨gb102, 1, none⟩) (Kd.R_far (p := ⟨gb102, 0, none⟩) (Kd.R_types HO119.out BK102.out (by decide)) (fun _ hk => hk.2) (.slice Ao29 t117.length co29)) (fun _ hk => hk.2) (.int .i64 t120)) (fun _ hk => hk.2) (.int .i64 t121)) (fun _ hk => hk.2) (.int .i64 t122)) (fun _ hk => hk.2) (.int .i64 t123)) (fun _ hk => hk.2) (.int .i64 t124)) (fun _ hk => hk.2) (.int .i64 t125)) (fun _ hk => trivial), by repeat (first | (with_reducible first | exact HB.out | apply below_alloc | apply pw_below_drewN | apply below_drew1 | refine below_set ?_ GE101.out | refine below_set ?_ GE102.out) | exact HB.out)⟩
          · rw [if_neg c23] at H
            exact absurd H (by simp)
        · rw [if_neg c22] at H
          exact absurd H (by simp)
end Go.Proofs.Ytdlmincaplbpgaa.Q
namespace Go.Proofs.Ytdlmincaplbpgaa.Q
open Go.RowKit Go.Proofs.YtdlmincaplbpgaaW.PrintWords Go.Proofs.YtdlmincaplbpgaaW.PrintLast Go.Proofs.YtdlmincaplbpgaaW.PrintMore
attribute [local go_sem] max2_int min2_int max_two min_two max_three min_three max_four min_four
set_option linter.unusedVariables false
set_option linter.unusedSimpArgs false
def laws_at.f (l0 : List Int) (a1 : Int) : Option (Int) := if (l0.length : Int) = 0 then (some 0) else (if 0 ≤ (Int.tmod (wrap64 ((wrap64 (a1 * 5)) + 1)) (l0.length : Int)) then (if (Int.tmod (wrap64 ((wrap64 (a1 * 5)) + 1)) (l0.length : Int)) < (l0.length : Int) then (some (wrap64 (rd l0 (Int.tmod (wrap64 ((wrap64 (a1 * 5)) + 1)) (l0.length : Int))))) else (none)) else (none))
set_option maxHeartbeats 8000000 in
set_option maxRecDepth 100000 in
theorem laws_at.calls (A0 : Option Addr) (c0 : Nat) (l0 : List Int) (a1 : Int) (r : Int) (w : World) (hr0 : Kd.C (Kd.int .u8) w A0 l0.length l0) (hc0 : l0.length ≤ c0) (h : laws_at.f l0 a1 = some r) :
    Calls Try.prog 17 #[.slice A0 l0.length c0, .int .i64 a1] w fun e w' => e = .returned (.int .i64 r) ∧ Drawn0 w w' := by
  have HR0 := Aside0.mk hr0
  have HC0 := Aside0.mk hc0
  clear hr0 hc0
  have H : (if (l0.length : Int) = 0 then (some 0) else (if 0 ≤ (Int.tmod (wrap64 ((wrap64 (a1 * 5)) + 1)) (l0.length : Int)) then (if (Int.tmod (wrap64 ((wrap64 (a1 * 5)) + 1)) (l0.length : Int)) < (l0.length : Int) then (some (wrap64 (rd l0 (Int.tmod (wrap64 ((wrap64 (a1 * 5)) + 1)) (l0.length : Int))))) else (none)) else (none))) = some r := h
  clear h
  by_cases c3 : (l0.length : Int) = 0
  · rw [if_pos c3] at H
    have c3b0 : ((l0.length : Int) == 0) = true := beq_iff_eq.mpr c3
    have c3b1 : ((l0.length : Int) != 0) = false := bne_eq_false_iff_eq.mpr c3
    clear c3
    obtain rfl := Option.some.inj H
    go_enter Try.func17, Try.ntmps17
    go_wp2
    go_ret
    exact ⟨by first | rfl | (simp; done) | (simp [*]; done), by repeat (first | exact Drawn0.refl _ | apply Drawn0.step)⟩
  · rw [if_neg c3] at H
    have c3b0 : ((l0.length : Int) == 0) = false := beq_eq_false_iff_ne.mpr c3
    have c3b1 : ((l0.length : Int) != 0) = true := bne_iff_ne.mpr c3
    have c3b2 : ¬ (l0 = []) := fun h_ => c3 (by rw [h_]; rfl)
    obtain ⟨ji4, hji4⟩ : ∃ j_ : Int, (Int.tmod (wrap64 ((wrap64 (a1 * 5)) + 1)) (l0.length : Int)) = j_ := ⟨_, rfl⟩
    replace H : (if 0 ≤ (ji4) then (if (ji4) < (l0.length : Int) then (some (wrap64 (rd l0 (ji4)))) else (none)) else (none)) = some r := by first | (rw [hji4] at H; exact H) | (simp only [hji4] at H ⊢; exact H)
    by_cases c5 : 0 ≤ (ji4)
    · rw [if_pos c5] at H
      have c5b0 : decide (0 ≤ (ji4)) = true := decide_eq_true c5
      clear c5
      by_cases c6 : (ji4) < (l0.length : Int)
      · rw [if_pos c6] at H
        have c6b0 : decide ((ji4) < (l0.length : Int)) = true := decide_eq_true c6
        clear c6
        obtain rfl := Option.some.inj H
        have p101 : 0 ≤ ((ji4) : Int) := of_decide_eq_true (by first | (with_reducible assumption) | assumption)
        have q101 : (ji4) < (l0.length : Int) := of_decide_eq_true (by first | (with_reducible assumption) | assumption)
        obtain ⟨ad101, e101, hx101_0⟩ := Kd.at_int HR0.out (ji4) p101 q101
        cases e101
        replace p101 := eq_true p101
        replace q101 := eq_true q101
        go_enter Try.func17, Try.ntmps17
        go_wp2
        go_ret
        exact ⟨by first | rfl | (simp; done) | (simp only [← hji4] <;> (first | rfl | simp)) | (simp [*]; done), by repeat (first | exact Drawn0.refl _ | apply Drawn0.step)⟩
      · rw [if_neg c6] at H
        exact absurd H (by simp)
    · rw [if_neg c5] at H
      exact absurd H (by simp)
end Go.Proofs.Ytdlmincaplbpgaa.Q
namespace Go.Proofs.Ytdlmincaplbpgaa.Q
open Go.RowKit Go.Proofs.YtdlmincaplbpgaaW.PrintWords Go.Proofs.YtdlmincaplbpgaaW.PrintLast Go.Proofs.YtdlmincaplbpgaaW.PrintMore
attribute [local go_sem] max2_int min2_int max_two min_two max_three min_three max_four min_four
set_option linter.unusedVariables false
set_option linter.unusedSimpArgs false
def laws_big.f (l0 : List Int) : Option (Bool) := some (decide ((l0.length : Int) > 1048576))
set_option maxHeartbeats 8000000 in
set_option maxRecDepth 100000 in
theorem laws_big.calls (A0 : Option Addr) (c0 : Nat) (l0 : List Int) (r : Bool) (w : World) (hr0 : Kd.C (Kd.int .u8) w A0 l0.length l0) (hc0 : l0.length ≤ c0) (h : laws_big.f l0 = some r) :
    Calls Try.prog 8 #[.slice A0 l0.length c0] w fun e w' => e = .returned (.bool r) ∧ Drawn0 w w' := by
  have HR0 := Aside0.mk hr0
  have HC0 := Aside0.mk hc0
  clear hr0 hc0
  have H : (some (decide ((l0.length : Int) > 1048576))) = some r := h
  clear h
  obtain rfl := Option.some.inj H
  go_enter Try.func8, Try.ntmps8
  go_wp2
  go_ret
  exact ⟨by first | rfl | (simp; done) | (simp [*]; done), by repeat (first | exact Drawn0.refl _ | apply Drawn0.step)⟩
end Go.Proofs.Ytdlmincaplbpgaa.Q
namespace Go.Proofs.Ytdlmincaplbpgaa.Q
open Go.RowKit Go.Proofs.YtdlmincaplbpgaaW.PrintWords Go.Proofs.YtdlmincaplbpgaaW.PrintLast Go.Proofs.YtdlmincaplbpgaaW.PrintMore
attribute [local go_sem] max2_int min2_int max_two min_two max_three min_three max_four min_four
set_option linter.unusedVariables false
set_option linter.unusedSimpArgs false
def laws_btoi.f (a0 : Bool) : Option (Int) := if a0 = true then (some 1) else (some 0)
set_option maxHeartbeats 8000000 in
set_option maxRecDepth 100000 in
theorem laws_btoi.calls (a0 : Bool) (r : Int) (w : World) (h : laws_btoi.f a0 = some r) :
    Calls Try.prog 21 #[.bool a0] w fun e w' => e = .returned (.int .i64 r) ∧ Drawn0 w w' := by
  have H : (if a0 = true then (some 1) else (some 0)) = some r := h
  clear h
  by_cases c2 : a0 = true
  · subst c2
    have H1 : (some 1) = some r := by rw [if_pos rfl] at H; exact H
    clear H
    have H := H1
    clear H1
    obtain rfl := Option.some.inj H
    go_enter Try.func21, Try.ntmps21
    go_wp2
    go_ret
    exact ⟨by first | rfl | (simp; done) | (simp [*]; done), by repeat (first | exact Drawn0.refl _ | apply Drawn0.step)⟩
  · replace c2 := Bool.eq_false_iff.mpr c2
    subst c2
    have H1 : (some 0) = some r := by rw [if_neg (show ¬ (false = true) by decide)] at H; exact H
    clear H
    have H := H1
    clear H1
    obtain rfl := Option.some.inj H
    go_enter Try.func21, Try.ntmps21
    go_wp2
    go_ret
    exact ⟨by first | rfl | (simp; done) | (simp [*]; done), by repeat (first | exact Drawn0.refl _ | apply Drawn0.step)⟩
end Go.Proofs.Ytdlmincaplbpgaa.Q
namespace Go.Proofs.Ytdlmincaplbpgaa.Q
open Go.RowKit Go.Proofs.YtdlmincaplbpgaaW.PrintWords Go.Proofs.YtdlmincaplbpgaaW.PrintLast Go.Proofs.YtdlmincaplbpgaaW.PrintMore
attribute [local go_sem] max2_int min2_int max_two min_two max_three min_three max_four min_four
set_option linter.unusedVariables false
set_option linter.unusedSimpArgs false
def IsS103 (w0 W : World) (g : Nat) (f0 : List Int) (f1 : Int) (f2 : Int) : Prop := ∃ A0 c0, W.heap[g]? = some (.cells #[.slice A0 f0.length c0, .int .i64 f1, .int .i64 f2] 103 (0, 0)) ∧ w0.heap.size ≤ g ∧ Kd.C (Kd.int .u8) w0 A0 f0.length f0
theorem IsS103.grown {w0 W : World} {g : Nat} {f0 : List Int} {f1 : Int} {f2 : Int} {W1 : World} {row : Option Nat} (h : IsS103 w0 W g f0 f1 f2) (hw : W.grownBy W1 row) (hne : some g ≠ row) : IsS103 w0 W1 g f0 f1 f2 := by
  obtain ⟨A0, c0, hb, hg, hr0⟩ := h
  exact ⟨A0, c0, blk_grown hb hw hne, hg, hr0⟩
theorem IsS103.kept {w0 W : World} {g : Nat} {f0 : List Int} {f1 : Int} {f2 : Int} {W1 : World} {S : Nat → Prop} (h : IsS103 w0 W g f0 f1 f2) (hk : Kept W W1 S) (hne : ¬ S g) : IsS103 w0 W1 g f0 f1 f2 := by
  obtain ⟨A0, c0, hb, hg, hr0⟩ := h
  exact ⟨A0, c0, blk_kept hb hk hne, hg, hr0⟩
theorem IsS103.below {w0 W : World} {g : Nat} {f0 : List Int} {f1 : Int} {f2 : Int} {W1 : World} (h : IsS103 w0 W g f0 f1 f2) (hw : Below W.heap.size W W1) : IsS103 w0 W1 g f0 f1 f2 := h.grown (grown_of_below hw none) (by simp)
theorem IsS103.alloc {w0 W : World} {g : Nat} {f0 : List Int} {f1 : Int} {f2 : Int} (h : IsS103 w0 W g f0 f1 f2) (o : Obj) : IsS103 w0 (W.alloc o) g f0 f1 f2 := h.below (below_alloc (Below.refl _ _) o)
theorem IsS103.drewN {w0 W : World} {g : Nat} {f0 : List Int} {f1 : Int} {f2 : Int} (h : IsS103 w0 W g f0 f1 f2) (m : Nat) : IsS103 w0 (W.drewN m) g f0 f1 f2 := h
theorem IsS103.drew {w0 W : World} {g : Nat} {f0 : List Int} {f1 : Int} {f2 : Int} (h : IsS103 w0 W g f0 f1 f2) : IsS103 w0 W.drew g f0 f1 f2 := h
theorem IsS103.at_ {w0 W : World} {g : Nat} {f0 : List Int} {f1 : Int} {f2 : Int} {w' : World} {m : Nat} (hq : W.drewN m = w') (h : IsS103 w0 W g f0 f1 f2) : IsS103 w0 w' g f0 f1 f2 := by subst hq; exact IsS103.drewN h m
theorem IsS103.apart {w0 W : World} {g : Nat} {f0 : List Int} {f1 : Int} {f2 : Int} {α : Type} {d : Kd α} {e : Nat} {base : Nat} {ok : Nat → Prop} {v : Value} {xs : List α} (h : IsS103 w0 W g f0 f1 f2) (ho : d.R e W base ok v xs) (ht : ∀ q, q ∈ e :: d.E → q ≠ 103) : d.R e W base (fun k => ok k ∧ k ≠ g) v xs := by
  obtain ⟨A0, c0, hb, hg, hr0⟩ := h
  exact Kd.R_types ho hb ht
theorem IsS103.own_ne {w0 W : World} {g : Nat} {f0 : List Int} {f1 : Int} {f2 : Int} {α : Type} {d : Kd α} {e : Nat} {base : Nat} {ok : Nat → Prop} {v : Value} {xs : List α} (h : IsS103 w0 W g f0 f1 f2) (ho : d.R e W base ok v xs) (ht : e ≠ 103) : some g ≠ v.ownBlock := by
  obtain ⟨A0, c0, hb, hg, hr0⟩ := h
  exact Kd.R_ne ho hb ht
theorem IsS103.lt {w0 W : World} {g : Nat} {f0 : List Int} {f1 : Int} {f2 : Int} (h : IsS103 w0 W g f0 f1 f2) : g < W.heap.size := by
  obtain ⟨A0, c0, hb, hg, hr0⟩ := h
  exact blk_lt hb
theorem IsS103.ge {w0 W : World} {g : Nat} {f0 : List Int} {f1 : Int} {f2 : Int} (h : IsS103 w0 W g f0 f1 f2) : w0.heap.size ≤ g := by
  obtain ⟨A0, c0, hb, hg, hr0⟩ := h
  exact hg
theorem IsS103.ne_blk {w0 W : World} {g : Nat} {f0 : List Int} {f1 : Int} {f2 : Int} {a : Nat} {cs : Array Value} {t : TypeId} {fr : Nat × Nat} (h : IsS103 w0 W g f0 f1 f2) (hb2 : W.heap[a]? = some (.cells cs t fr)) (ht : t ≠ 103) : g ≠ a := by
  obtain ⟨A0, c0, hb, hg, hr0⟩ := h
  rintro rfl
  rw [hb] at hb2
  injection hb2 with hb2
  injection hb2 with _ ht2
  exact ht ht2.symm
theorem IsS103.far {w0 W : World} {g : Nat} {f0 : List Int} {f1 : Int} {f2 : Int} {p : Addr} (h : IsS103 w0 W g f0 f1 f2) (hne : g ≠ p.block) (u : Value) : IsS103 w0 (W.setCell p u) g f0 f1 f2 := by
  obtain ⟨A0, c0, hb, hg, hr0⟩ := h
  exact ⟨A0, c0, blk_far hb hne u, hg, hr0⟩
theorem cellS103_0 {W : World} {g : Nat} {A0 : Option Addr} {c0 : Nat} {f0 : List Int} {f1 : Int} {f2 : Int} (h : W.heap[g]? = some (.cells #[.slice A0 f0.length c0, .int .i64 f1, .int .i64 f2] 103 (0, 0))) : W.cell? ⟨g, 0, none⟩ = some (.slice A0 f0.length c0) := (blk_cell h 0).trans rfl
theorem cellS103_1 {W : World} {g : Nat} {A0 : Option Addr} {c0 : Nat} {f0 : List Int} {f1 : Int} {f2 : Int} (h : W.heap[g]? = some (.cells #[.slice A0 f0.length c0, .int .i64 f1, .int .i64 f2] 103 (0, 0))) : W.cell? ⟨g, 1, none⟩ = some (.int .i64 f1) := (blk_cell h 1).trans rfl
theorem IsS103.set_1 {w0 W : World} {g : Nat} {f0 : List Int} {f1 : Int} {f2 : Int} (h : IsS103 w0 W g f0 f1 f2) (x : Int) : IsS103 w0 (W.setCell ⟨g, 1, none⟩ (.int .i64 x)) g f0 x f2 := by
  obtain ⟨A0, c0, hb, hg, hr0⟩ := h
  exact ⟨A0, c0, by simpa using blk_set hb 1 (.int .i64 x), hg, hr0⟩
theorem cellS103_2 {W : World} {g : Nat} {A0 : Option Addr} {c0 : Nat} {f0 : List Int} {f1 : Int} {f2 : Int} (h : W.heap[g]? = some (.cells #[.slice A0 f0.length c0, .int .i64 f1, .int .i64 f2] 103 (0, 0))) : W.cell? ⟨g, 2, none⟩ = some (.int .i64 f2) := (blk_cell h 2).trans rfl
theorem IsS103.set_2 {w0 W : World} {g : Nat} {f0 : List Int} {f1 : Int} {f2 : Int} (h : IsS103 w0 W g f0 f1 f2) (x : Int) : IsS103 w0 (W.setCell ⟨g, 2, none⟩ (.int .i64 x)) g f0 f1 x := by
  obtain ⟨A0, c0, hb, hg, hr0⟩ := h
  exact ⟨A0, c0, by simpa using blk_set hb 2 (.int .i64 x), hg, hr0⟩
def spec_l01New.l0 : Nat → List Int → Int → Int → Option (List Int × Int × Int)
  | 0, _, _, _ => none
  | k + 1, x0, x3, x4 => if x4 < (x0.length : Int) then (if x4 < 4000 then (if 0 ≤ x4 then (spec_l01New.l0 k x0 (Go.bits .and .i64 (wrap64 ((wrap64 ((wrap64 (x3 * 131)) + (wrap64 (rd x0 x4)))) + 7)) 1073741823) (wrap64 (x4 + 1))) else (none)) else (some (x0, 0, x3))) else (some (x0, 0, x3))
def spec_l01New.f (k : Nat) (l0 : List Int) : Option (List Int × Int × Int) := spec_l01New.l0 k l0 (wrap64 (33101 + (l0.length : Int))) 0
theorem spec_l01New.mono_l : ∀ k, (∀ y0 y1 y2, LeO (spec_l01New.l0 k y0 y1 y2) (spec_l01New.l0 (k + 1) y0 y1 y2))
  | 0 => fun _ _ _ r h => by simp [spec_l01New.l0] at h
  | k + 1 => by
    have ih0 := spec_l01New.mono_l k
    · intro y0 y1 y2
      unfold spec_l01New.l0
      repeat' first
      | (with_reducible exact ih0 _ _ _)
      | (with_reducible exact LeO.refl _)
      | (with_reducible exact LeO.none _)
      | (with_reducible refine LeO.ite ?_ ?_)
      | (with_reducible refine LeO.bind ?_ (fun _ => ?_))
      | exact ih0 _ _ _
      | exact LeO.none _
      | refine LeO.ite ?_ ?_
      | refine LeO.bind ?_ (fun _ => ?_)
theorem spec_l01New.mono : ∀ a0 k, LeO (spec_l01New.f k a0) (spec_l01New.f (k + 1) a0) := by
  intro a0 k
  have ih0 := spec_l01New.mono_l k
  unfold spec_l01New.f
  repeat' first
      | (with_reducible exact ih0 _ _ _)
      | (with_reducible exact LeO.refl _)
      | (with_reducible exact LeO.none _)
      | (with_reducible refine LeO.ite ?_ ?_)
      | (with_reducible refine LeO.bind ?_ (fun _ => ?_))
      | exact ih0 _ _ _
      | exact LeO.none _
      | refine LeO.ite ?_ ?_
      | refine LeO.bind ?_ (fun _ => ?_)
set_option maxHeartbeats 8000000 in
set_option maxRecDepth 100000 in
theorem spec_l01New.calls (k : Nat) (A0 : Option Addr) (c0 : Nat) (l0 : List Int) (r1 : List Int) (r2 : Int) (r3 : Int) (w0 w : World) (hB : Below w0.heap.size w0 w) (hr0 : Kd.C (Kd.int .u8) w0 A0 l0.length l0) (hc0 : l0.length ≤ c0) (h : spec_l01New.f k l0 = some (r1, r2, r3)) :
    Calls Try.prog 34 #[.slice A0 l0.length c0] w fun e w' => ∃ g_ : Nat, e = .returned (.pointer (some ⟨g_, 0, none⟩)) ∧ IsS103 w0 w' g_ r1 r2 r3 ∧ Below w0.heap.size w0 w' ∧ Below w.heap.size w w' := by
  have hu1 := Try.underlying103
  have HR0 := Aside0.mk hr0
  have HC0 := Aside0.mk hc0
  clear hr0 hc0
  have HBW := Aside0.mk (Below.refl w.heap.size w)
  have HW0 := Aside0.mk hB.size
  have HB := Aside0.mk hB
  clear hB
  have H : (spec_l01New.l0 k l0 (wrap64 (33101 + (l0.length : Int))) 0) = some (r1, r2, r3) := h
  clear h
  have H' := Aside0.mk H
  clear H
  go_enter Try.func34, Try.ntmps34
  go_wp2
  go_loopg [3, 4] k (fun kq v3 v4 w' => ∃ (x3_1 : Int) (x4_1 : Int), v3 = .int .i64 x3_1 ∧ v4 = .int .i64 x4_1 ∧ Aside0 (spec_l01New.l0 kq l0 x3_1 x4_1 = some (r1, r2, r3)) ∧ Aside0 (kq ≤ k) ∧ Aside0 (Below w0.heap.size w0 w') ∧ Aside0 (Below w.heap.size w w'))
  case atStart => exact ⟨(wrap64 (33101 + (l0.length : Int))), (0), (by first | rfl | (simp; done) | (simp [*]; done)), (by first | rfl | (simp; done) | (simp [*]; done)), H', ⟨Nat.le_refl _⟩, HB, HBW⟩
  case round =>
    clear H'
    clear HB HBW
    obtain ⟨x3_1, x4_1, rfl, rfl, HA, HK1, HB, HBW⟩ := hrel
    cases gk with
    | zero => exact absurd HA.out (by simp [spec_l01New.l0])
    | succ k1 =>
      have H := HA.out
      clear HA
      simp only [spec_l01New.l0] at H
      by_cases c2 : x4_1 < (l0.length : Int)
      · rw [if_pos c2] at H
        have c2b0 : decide (x4_1 < (l0.length : Int)) = true := decide_eq_true c2
        clear c2
        by_cases c3 : x4_1 < 4000
        · rw [if_pos c3] at H
          have c3b0 : decide (x4_1 < 4000) = true := decide_eq_true c3
          clear c3
          by_cases c4 : 0 ≤ x4_1
          · rw [if_pos c4] at H
            have c4b0 : decide (0 ≤ x4_1) = true := decide_eq_true c4
            clear c4
            have H' := Aside0.mk H
            clear H
            have p101 : 0 ≤ (x4_1 : Int) := of_decide_eq_true (by first | (with_reducible assumption) | assumption)
            have q101 : x4_1 < (l0.length : Int) := of_decide_eq_true (by first | (with_reducible assumption) | assumption)
            obtain ⟨ad101, e101, hx101_0⟩ := Kd.at_int HR0.out x4_1 p101 q101
            cases e101
            replace hx101_0 := pw_cell_below HB.out hx101_0
            replace p101 := eq_true p101
            replace q101 := eq_true q101
            go_wp2
            go_roundg k1
            case measure => have := HK1.out; omega
            case rel => exact ⟨(Go.bits .and .i64 (wrap64 ((wrap64 ((wrap64 (x3_1 * 131)) + (wrap64 (rd l0 x4_1)))) + 7)) 1073741823), (wrap64 (x4_1 + 1)), (by first | rfl | (simp; done) | (simp [*]; done)), (by first | rfl | (simp; done) | (simp [*]; done)), H', ⟨by have := HK1.out; omega⟩, HB, HBW⟩
          · rw [if_neg c4] at H
            exact absurd H (by simp)
        · rw [if_neg c3] at H
          have c3b0 : decide (x4_1 < 4000) = false := decide_eq_false c3
          clear c3
          simp only [Option.some.injEq, Prod.mk.injEq] at H
          obtain ⟨rfl, rfl, rfl⟩ := H
          go_wp2_with (first | ((with_reducible refine gate_dst (N := 31) rfl ?_); refine box_event ?hg (N := 31) ?hd (cs := #[.slice A0 l0.length c0, .int .i64 0, .int .i64 x3_1]) (t := 103) ?hr ?_; (case hd => rfl); (case hg => rfl); (case hr => first | (go_simp; done) | (go_simp; rfl)); intro gb102 hg w5 hbox hb; have n0_ := Aside0.mk (below_step HBW.out hb); have n1_ := Aside0.mk (below_step (by repeat (first | (with_reducible first | exact HB.out | apply below_alloc | apply pw_below_drewN | apply below_drew1) | exact HB.out)) hb); have n2_ := Aside0.mk (hbox); have n3_ := Aside0.mk ((by rw [hg]; exact (below_size (by repeat (first | (with_reducible first | exact HBW.out | apply below_alloc | apply pw_below_drewN | apply below_drew1) | exact HBW.out))) : w.heap.size ≤ gb102)); have n4_ := Aside0.mk ((Nat.le_trans HW0.out (by rw [hg]; exact (below_size (by repeat (first | (with_reducible first | exact HBW.out | apply below_alloc | apply pw_below_drewN | apply below_drew1) | exact HBW.out))) : w.heap.size ≤ gb102) : w0.heap.size ≤ gb102)); clear HBW; clear HB; have HBW := n0_; have HB := n1_; have BK102 := n2_; have GW102 := n3_; have GE102 := n4_; clear n0_ n1_ n2_ n3_ n4_; clear hb hbox hg))
          go_ret
          exact ⟨_, rfl, (show IsS103 w0 _ gb102 l0 0 x3_1 from ⟨_, _, by (with_reducible repeat (first | refine blk_drewN ?_ _ | refine blk_drew ?_ | refine blk_alloc ?_ _)); exact BK102.out, GE102.out, HR0.out⟩), by repeat (first | (with_reducible first | exact HB.out | apply below_alloc | apply pw_below_drewN | apply below_drew1 | refine below_set ?_ GE102.out) | exact HB.out), by repeat (first | (with_reducible first | exact HBW.out | apply below_alloc | apply pw_below_drewN | apply below_drew1 | refine below_set ?_ GW102.out) | exact HBW.out)⟩
      · rw [if_neg c2] at H
        have c2b0 : decide (x4_1 < (l0.length : Int)) = false := decide_eq_false c2
        clear c2
        simp only [Option.some.injEq, Prod.mk.injEq] at H
        obtain ⟨rfl, rfl, rfl⟩ := H
        go_wp2_with (first | ((with_reducible refine gate_dst (N := 31) rfl ?_); refine box_event ?hg (N := 31) ?hd (cs := #[.slice A0 l0.length c0, .int .i64 0, .int .i64 x3_1]) (t := 103) ?hr ?_; (case hd => rfl); (case hg => rfl); (case hr => first | (go_simp; done) | (go_simp; rfl)); intro gb103 hg w6 hbox hb; have n0_ := Aside0.mk (below_step HBW.out hb); have n1_ := Aside0.mk (below_step (by repeat (first | (with_reducible first | exact HB.out | apply below_alloc | apply pw_below_drewN | apply below_drew1) | exact HB.out)) hb); have n2_ := Aside0.mk (hbox); have n3_ := Aside0.mk ((by rw [hg]; exact (below_size (by repeat (first | (with_reducible first | exact HBW.out | apply below_alloc | apply pw_below_drewN | apply below_drew1) | exact HBW.out))) : w.heap.size ≤ gb103)); have n4_ := Aside0.mk ((Nat.le_trans HW0.out (by rw [hg]; exact (below_size (by repeat (first | (with_reducible first | exact HBW.out | apply below_alloc | apply pw_below_drewN | apply below_drew1) | exact HBW.out))) : w.heap.size ≤ gb103) : w0.heap.size ≤ gb103)); clear HBW; clear HB; have HBW := n0_; have HB := n1_; have BK103 := n2_; have GW103 := n3_; have GE103 := n4_; clear n0_ n1_ n2_ n3_ n4_; clear hb hbox hg))
        go_ret
        exact ⟨_, rfl, (show IsS103 w0 _ gb103 l0 0 x3_1 from ⟨_, _, by (with_reducible repeat (first | refine blk_drewN ?_ _ | refine blk_drew ?_ | refine blk_alloc ?_ _)); exact BK103.out, GE103.out, HR0.out⟩), by repeat (first | (with_reducible first | exact HB.out | apply below_alloc | apply pw_below_drewN | apply below_drew1 | refine below_set ?_ GE103.out) | exact HB.out), by repeat (first | (with_reducible first | exact HBW.out | apply below_alloc | apply pw_below_drewN | apply below_drew1 | refine below_set ?_ GW103.out) | exact HBW.out)⟩
end Go.Proofs.Ytdlmincaplbpgaa.Q
namespace Go.Proofs.Ytdlmincaplbpgaa.Q
open Go.RowKit Go.Proofs.YtdlmincaplbpgaaW.PrintWords Go.Proofs.YtdlmincaplbpgaaW.PrintLast Go.Proofs.YtdlmincaplbpgaaW.PrintMore
attribute [local go_sem] max2_int min2_int max_two min_two max_three min_three max_four min_four
set_option linter.unusedVariables false
set_option linter.unusedSimpArgs false
def spec_l01In.f (a0 : Int) (a1 : Int) (a2 : Int) : Option (Bool) := if a0 ≥ a1 then (some (decide (a0 ≤ a2))) else (some false)
set_option maxHeartbeats 8000000 in
set_option maxRecDepth 100000 in
theorem spec_l01In.calls (a0 : Int) (a1 : Int) (a2 : Int) (r : Bool) (w : World) (h : spec_l01In.f a0 a1 a2 = some r) :
    Calls Try.prog 38 #[.int .i64 a0, .int .i64 a1, .int .i64 a2] w fun e w' => e = .returned (.bool r) ∧ Drawn0 w w' := by
  have H : (if a0 ≥ a1 then (some (decide (a0 ≤ a2))) else (some false)) = some r := h
  clear h
  by_cases c4 : a0 ≥ a1
  · rw [if_pos c4] at H
    have c4b0 : decide (a1 ≤ a0) = true := decide_eq_true c4
    clear c4
    obtain rfl := Option.some.inj H
    go_enter Try.func38, Try.ntmps38
    go_wp2
    go_ret
    exact ⟨by first | rfl | (simp; done) | (simp [*]; done), by repeat (first | exact Drawn0.refl _ | apply Drawn0.step)⟩
  · rw [if_neg c4] at H
    have c4b0 : decide (a1 ≤ a0) = false := decide_eq_false c4
    clear c4
    obtain rfl := Option.some.inj H
    go_enter Try.func38, Try.ntmps38
    go_wp2
    go_ret
    exact ⟨by first | rfl | (simp; done) | (simp [*]; done), by repeat (first | exact Drawn0.refl _ | apply Drawn0.step)⟩
end Go.Proofs.Ytdlmincaplbpgaa.Q
namespace Go.Proofs.Ytdlmincaplbpgaa.Q
open Go.RowKit Go.Proofs.YtdlmincaplbpgaaW.PrintWords Go.Proofs.YtdlmincaplbpgaaW.PrintLast Go.Proofs.YtdlmincaplbpgaaW.PrintMore
attribute [local go_sem] max2_int min2_int max_two min_two max_three min_three max_four min_four
set_option linter.unusedVariables false
set_option linter.unusedSimpArgs false
def spec_RackOk.f (a0_0 : Int) (a0_1 : Int) (a0_2 : Int) : Option (Bool) := (spec_l01In.f a0_0 0 10000).bind fun t102 => (if t102 = true then ((spec_l01In.f a0_1 0 10000).bind fun t103 => (if t103 = true then ((spec_l01In.f a0_2 0 10000).bind fun t104 => (some t104)) else (some false))) else (some false))
set_option maxHeartbeats 8000000 in
set_option maxRecDepth 100000 in
theorem spec_RackOk.calls (a0_0 : Int) (a0_1 : Int) (a0_2 : Int) (r : Bool) (w : World) (h : spec_RackOk.f a0_0 a0_1 a0_2 = some r) :
    Calls Try.prog 112 #[.agg #[.int .i64 a0_0, .int .i64 a0_1, .int .i64 a0_2]] w fun e w' => e = .returned (.bool r) ∧ Below w.heap.size w w' := by
  have hu33 := Try.underlying33
  have HB := Aside0.mk (Below.refl w.heap.size w)
  have H : ((spec_l01In.f a0_0 0 10000).bind fun t102 => (if t102 = true then ((spec_l01In.f a0_1 0 10000).bind fun t103 => (if t103 = true then ((spec_l01In.f a0_2 0 10000).bind fun t104 => (some t104)) else (some false))) else (some false))) = some r := h
  clear h
  replace H := Option.bind_eq_some_iff.mp H
  obtain ⟨t102, A20, H⟩ := H
  replace H : (if t102 = true then ((spec_l01In.f a0_1 0 10000).bind fun t103 => (if t103 = true then ((spec_l01In.f a0_2 0 10000).bind fun t104 => (some t104)) else (some false))) else (some false)) = some r := H
  have A2 := Aside0.mk A20
  clear A20
  by_cases c3 : t102 = true
  · subst c3
    have H1 : ((spec_l01In.f a0_1 0 10000).bind fun t103 => (if t103 = true then ((spec_l01In.f a0_2 0 10000).bind fun t104 => (some t104)) else (some false))) = some r := by rw [if_pos rfl] at H; exact H
    clear H
    have H := H1
    clear H1
    replace H := Option.bind_eq_some_iff.mp H
    obtain ⟨t103, A40, H⟩ := H
    replace H : (if t103 = true then ((spec_l01In.f a0_2 0 10000).bind fun t104 => (some t104)) else (some false)) = some r := H
    have A4 := Aside0.mk A40
    clear A40
    by_cases c5 : t103 = true
    · subst c5
      have H1 : ((spec_l01In.f a0_2 0 10000).bind fun t104 => (some t104)) = some r := by rw [if_pos rfl] at H; exact H
      clear H
      have H := H1
      clear H1
      replace H := Option.bind_eq_some_iff.mp H
      obtain ⟨t104, A60, H⟩ := H
      replace H : (some t104) = some r := H
      have A6 := Aside0.mk A60
      clear A60
      obtain rfl := Option.some.inj H
      go_enter Try.func112, Try.ntmps112
      go_wp2_with (first | ((with_reducible refine gate_dst (N := 1) rfl ?_); refine box_event ?hg (N := 1) ?hd (cs := #[.int .i64 a0_0, .int .i64 a0_1, .int .i64 a0_2]) (t := 33) ?hr ?_; (case hd => rfl); (case hg => rfl); (case hr => first | (go_simp; done) | (go_simp; rfl)); intro gb101 hg w7 hbox hb; have n0_ := Aside0.mk (below_step (by repeat (first | (with_reducible first | exact HB.out | apply below_alloc | apply pw_below_drewN | apply below_drew1) | exact HB.out)) hb); have n1_ := Aside0.mk (hbox); have n2_ := Aside0.mk ((by rw [hg]; exact (below_size (by repeat (first | (with_reducible first | exact HB.out | apply below_alloc | apply pw_below_drewN | apply below_drew1) | exact HB.out))) : w.heap.size ≤ gb101)); have n3_ := Aside0.mk ((by rw [hg]; exact (below_size (by repeat (first | (with_reducible first | exact HB.out | apply below_alloc | apply pw_below_drewN | apply below_drew1) | exact HB.out))) : w.heap.size ≤ gb101)); clear HB; have HB := n0_; have BK101 := n1_; have GW101 := n2_; have GE101 := n3_; clear n0_ n1_ n2_ n3_; clear hb hbox hg; have hcz8_0 : w7.cell? ⟨gb101, 0, none⟩ = some (.int .i64 a0_0) := (blk_cell BK101.out 0).trans rfl; have hcz8_1 : w7.cell? ⟨gb101, 1, none⟩ = some (.int .i64 a0_1) := (blk_cell BK101.out 1).trans rfl; have hcz8_2 : w7.cell? ⟨gb101, 2, none⟩ = some (.int .i64 a0_2) := (blk_cell BK101.out 2).trans rfl; have hfz8_0 := blk_frozen BK101.out 0; have hfz8_1 := blk_frozen BK101.out 1; have hfz8_2 := blk_frozen BK101.out 2) | ((with_reducible refine gate_callee (f := 38) rfl ?_); refine goesL_ (some 5) rfl rfl Try.func38 (by kernel_rfl) rfl #[.int .i64 a0_0, .int .i64 0, .int .i64 10000] rfl (by (try simp only [List.map_toArray, List.map_cons, List.map_nil]); first | done | rfl | (simp only [List.length_drop, List.length_take]; rfl)) ?_; (with_reducible refine (spec_l01In.calls a0_0 0 10000 true _ A2.out).mono ?_); rintro e w' ⟨rfl, ⟨nd, rfl⟩⟩; refine ⟨_, rfl, ?_⟩) | (go_at_call 38; (with_reducible refine (spec_l01In.calls a0_1 0 10000 true _ A4.out).mono ?_); rintro e w' ⟨rfl, ⟨nd, rfl⟩⟩) | (go_at_call 38; (with_reducible refine (spec_l01In.calls a0_2 0 10000 t104 _ A6.out).mono ?_); rintro e w' ⟨rfl, ⟨nd, rfl⟩⟩))
      go_ret
      exact ⟨by first | rfl | (simp [errW_none, errW_some] <;> rfl) | (simp [*, errW_none, errW_some] <;> rfl), by repeat (first | (with_reducible first | exact HB.out | apply below_alloc | apply pw_below_drewN | apply below_drew1 | refine below_set ?_ GE101.out) | exact HB.out)⟩
    · replace c5 := Bool.eq_false_iff.mpr c5
      subst c5
      have H1 : (some false) = some r := by rw [if_neg (show ¬ (false = true) by decide)] at H; exact H
      clear H
      have H := H1
      clear H1
      obtain rfl := Option.some.inj H
      go_enter Try.func112, Try.ntmps112
      go_wp2_with (first | ((with_reducible refine gate_dst (N := 1) rfl ?_); refine box_event ?hg (N := 1) ?hd (cs := #[.int .i64 a0_0, .int .i64 a0_1, .int .i64 a0_2]) (t := 33) ?hr ?_; (case hd => rfl); (case hg => rfl); (case hr => first | (go_simp; done) | (go_simp; rfl)); intro gb101 hg w9 hbox hb; have n0_ := Aside0.mk (below_step (by repeat (first | (with_reducible first | exact HB.out | apply below_alloc | apply pw_below_drewN | apply below_drew1) | exact HB.out)) hb); have n1_ := Aside0.mk (hbox); have n2_ := Aside0.mk ((by rw [hg]; exact (below_size (by repeat (first | (with_reducible first | exact HB.out | apply below_alloc | apply pw_below_drewN | apply below_drew1) | exact HB.out))) : w.heap.size ≤ gb101)); have n3_ := Aside0.mk ((by rw [hg]; exact (below_size (by repeat (first | (with_reducible first | exact HB.out | apply below_alloc | apply pw_below_drewN | apply below_drew1) | exact HB.out))) : w.heap.size ≤ gb101)); clear HB; have HB := n0_; have BK101 := n1_; have GW101 := n2_; have GE101 := n3_; clear n0_ n1_ n2_ n3_; clear hb hbox hg; have hcz10_0 : w9.cell? ⟨gb101, 0, none⟩ = some (.int .i64 a0_0) := (blk_cell BK101.out 0).trans rfl; have hcz10_1 : w9.cell? ⟨gb101, 1, none⟩ = some (.int .i64 a0_1) := (blk_cell BK101.out 1).trans rfl; have hcz10_2 : w9.cell? ⟨gb101, 2, none⟩ = some (.int .i64 a0_2) := (blk_cell BK101.out 2).trans rfl; have hfz10_0 := blk_frozen BK101.out 0; have hfz10_1 := blk_frozen BK101.out 1; have hfz10_2 := blk_frozen BK101.out 2) | ((with_reducible refine gate_callee (f := 38) rfl ?_); refine goesL_ (some 5) rfl rfl Try.func38 (by kernel_rfl) rfl #[.int .i64 a0_0, .int .i64 0, .int .i64 10000] rfl (by (try simp only [List.map_toArray, List.map_cons, List.map_nil]); first | done | rfl | (simp only [List.length_drop, List.length_take]; rfl)) ?_; (with_reducible refine (spec_l01In.calls a0_0 0 10000 true _ A2.out).mono ?_); rintro e w' ⟨rfl, ⟨nd, rfl⟩⟩; refine ⟨_, rfl, ?_⟩) | (go_at_call 38; (with_reducible refine (spec_l01In.calls a0_1 0 10000 false _ A4.out).mono ?_); rintro e w' ⟨rfl, ⟨nd, rfl⟩⟩))
      go_ret
      exact ⟨by first | rfl | (simp [errW_none, errW_some] <;> rfl) | (simp [*, errW_none, errW_some] <;> rfl), by repeat (first | (with_reducible first | exact HB.out | apply below_alloc | apply pw_below_drewN | apply below_drew1 | refine below_set ?_ GE101.out) | exact HB.out)⟩
  · replace c3 := Bool.eq_false_iff.mpr c3
    subst c3
    have H1 : (some false) = some r := by rw [if_neg (show ¬ (false = true) by decide)] at H; exact H
    clear H
    have H := H1
    clear H1
    obtain rfl := Option.some.inj H
    go_enter Try.func112, Try.ntmps112
    go_wp2_with (first | ((with_reducible refine gate_dst (N := 1) rfl ?_); refine box_event ?hg (N := 1) ?hd (cs := #[.int .i64 a0_0, .int .i64 a0_1, .int .i64 a0_2]) (t := 33) ?hr ?_; (case hd => rfl); (case hg => rfl); (case hr => first | (go_simp; done) | (go_simp; rfl)); intro gb101 hg w11 hbox hb; have n0_ := Aside0.mk (below_step (by repeat (first | (with_reducible first | exact HB.out | apply below_alloc | apply pw_below_drewN | apply below_drew1) | exact HB.out)) hb); have n1_ := Aside0.mk (hbox); have n2_ := Aside0.mk ((by rw [hg]; exact (below_size (by repeat (first | (with_reducible first | exact HB.out | apply below_alloc | apply pw_below_drewN | apply below_drew1) | exact HB.out))) : w.heap.size ≤ gb101)); have n3_ := Aside0.mk ((by rw [hg]; exact (below_size (by repeat (first | (with_reducible first | exact HB.out | apply below_alloc | apply pw_below_drewN | apply below_drew1) | exact HB.out))) : w.heap.size ≤ gb101)); clear HB; have HB := n0_; have BK101 := n1_; have GW101 := n2_; have GE101 := n3_; clear n0_ n1_ n2_ n3_; clear hb hbox hg; have hcz12_0 : w11.cell? ⟨gb101, 0, none⟩ = some (.int .i64 a0_0) := (blk_cell BK101.out 0).trans rfl; have hcz12_1 : w11.cell? ⟨gb101, 1, none⟩ = some (.int .i64 a0_1) := (blk_cell BK101.out 1).trans rfl; have hcz12_2 : w11.cell? ⟨gb101, 2, none⟩ = some (.int .i64 a0_2) := (blk_cell BK101.out 2).trans rfl; have hfz12_0 := blk_frozen BK101.out 0; have hfz12_1 := blk_frozen BK101.out 1; have hfz12_2 := blk_frozen BK101.out 2) | ((with_reducible refine gate_callee (f := 38) rfl ?_); refine goesL_ (some 5) rfl rfl Try.func38 (by kernel_rfl) rfl #[.int .i64 a0_0, .int .i64 0, .int .i64 10000] rfl (by (try simp only [List.map_toArray, List.map_cons, List.map_nil]); first | done | rfl | (simp only [List.length_drop, List.length_take]; rfl)) ?_; (with_reducible refine (spec_l01In.calls a0_0 0 10000 false _ A2.out).mono ?_); rintro e w' ⟨rfl, ⟨nd, rfl⟩⟩; refine ⟨_, rfl, ?_⟩))
    go_ret
    exact ⟨by first | rfl | (simp [errW_none, errW_some] <;> rfl) | (simp [*, errW_none, errW_some] <;> rfl), by repeat (first | (with_reducible first | exact HB.out | apply below_alloc | apply pw_below_drewN | apply below_drew1 | refine below_set ?_ GE101.out) | exact HB.out)⟩
end Go.Proofs.Ytdlmincaplbpgaa.Q
namespace Go.Proofs.Ytdlmincaplbpgaa.Q
open Go.RowKit Go.Proofs.YtdlmincaplbpgaaW.PrintWords Go.Proofs.YtdlmincaplbpgaaW.PrintLast Go.Proofs.YtdlmincaplbpgaaW.PrintMore
attribute [local go_sem] max2_int min2_int max_two min_two max_three min_three max_four min_four
set_option linter.unusedVariables false
set_option linter.unusedSimpArgs false
def spec_NextMorning.f (a0_0 : Int) (a0_1 : Int) (a0_2 : Int) (a1 : Int) : Option (Int × Int × Int × Int) := (spec_RackOk.f a0_0 a0_1 a0_2).bind fun t103 => (if t103 = true then ((spec_l01In.f a1 0 10000).bind fun t104 => (if t104 = true then (some (a1, a0_0, a0_1, a0_2)) else (some (a0_0, a0_1, a0_2, (-1))))) else (some (a0_0, a0_1, a0_2, (-1))))
def spec_NextMorning.T3 : Bool × List (List Nat × List Nat) := (true, [([], []), ([], []), ([1], [1]), ([], []), ([3], [3]), ([0, 2, 4], [0, 2, 4]), ([], []), ([6], [6]), ([5, 0, 1, 2, 3, 4, 5], [5]), ([7, 8, 0, 1, 2, 3, 4, 5, 6, 7, 8], [7])])
def spec_NextMorning.B3 : List Nat := [0, 0, 2, 0, 8, 31, 0, 64, 63, 511]
theorem spec_NextMorning.tab3 : rtab .any (opsOf Try.f115 3) = spec_NextMorning.T3 := by kernel_rfl
theorem spec_NextMorning.bits3 : waitsOk spec_NextMorning.T3.2 spec_NextMorning.B3 = true := by kernel_rfl
set_option maxHeartbeats 8000000 in
set_option maxRecDepth 100000 in
theorem spec_NextMorning.calls (a0_0 : Int) (a0_1 : Int) (a0_2 : Int) (a1 : Int) (r1 : Int) (r2 : Int) (r3 : Int) (r4 : Int) (w : World) (h : spec_NextMorning.f a0_0 a0_1 a0_2 a1 = some (r1, r2, r3, r4)) :
    Calls Try.prog 115 #[.agg #[.int .i64 a0_0, .int .i64 a0_1, .int .i64 a0_2], .int .i64 a1] w fun e w' => e = .returned (.tuple #[.agg #[.int .i64 r1, .int .i64 r2, .int .i64 r3], .int .i64 r4]) ∧ Below w.heap.size w w' := by
  have hu33 := Try.underlying33
  have HB := Aside0.mk (Below.refl w.heap.size w)
  have H : ((spec_RackOk.f a0_0 a0_1 a0_2).bind fun t103 => (if t103 = true then ((spec_l01In.f a1 0 10000).bind fun t104 => (if t104 = true then (some (a1, a0_0, a0_1, a0_2)) else (some (a0_0, a0_1, a0_2, (-1))))) else (some (a0_0, a0_1, a0_2, (-1))))) = some (r1, r2, r3, r4) := h
  clear h
  replace H := Option.bind_eq_some_iff.mp H
  obtain ⟨t103, A30, H⟩ := H
  replace H : (if t103 = true then ((spec_l01In.f a1 0 10000).bind fun t104 => (if t104 = true then (some (a1, a0_0, a0_1, a0_2)) else (some (a0_0, a0_1, a0_2, (-1))))) else (some (a0_0, a0_1, a0_2, (-1)))) = some (r1, r2, r3, r4) := H
  have A3 := Aside0.mk A30
  clear A30
  by_cases c4 : t103 = true
  · subst c4
    have H1 : ((spec_l01In.f a1 0 10000).bind fun t104 => (if t104 = true then (some (a1, a0_0, a0_1, a0_2)) else (some (a0_0, a0_1, a0_2, (-1))))) = some (r1, r2, r3, r4) := by rw [if_pos rfl] at H; exact H
    clear H
    have H := H1
    clear H1
    replace H := Option.bind_eq_some_iff.mp H
    obtain ⟨t104, A50, H⟩ := H
    replace H : (if t104 = true then (some (a1, a0_0, a0_1, a0_2)) else (some (a0_0, a0_1, a0_2, (-1)))) = some (r1, r2, r3, r4) := H
    have A5 := Aside0.mk A50
    clear A50
    by_cases c6 : t104 = true
    · subst c6
      have H1 : (some (a1, a0_0, a0_1, a0_2)) = some (r1, r2, r3, r4) := by rw [if_pos rfl] at H; exact H
      clear H
      have H := H1
      clear H1
      simp only [Option.some.injEq, Prod.mk.injEq] at H
      obtain ⟨rfl, rfl, rfl, rfl⟩ := H
      go_enter Try.func115, Try.ntmps115
      try go_wp2_with (first | ((with_reducible refine gate_dst (N := 2) rfl ?_); refine box_event ?hg (N := 2) ?hd (cs := #[.int .i64 a0_0, .int .i64 a0_1, .int .i64 a0_2]) (t := 33) ?hr ?_; (case hd => rfl); (case hg => rfl); (case hr => first | (go_simp; done) | (go_simp; rfl)); intro gb101 hg w7 hbox hb; have n0_ := Aside0.mk (below_step (by repeat (first | (with_reducible first | exact HB.out | apply below_alloc | apply pw_below_drewN | apply below_drew1) | exact HB.out)) hb); have n1_ := Aside0.mk (hbox); have n2_ := Aside0.mk ((by rw [hg]; exact (below_size (by repeat (first | (with_reducible first | exact HB.out | apply below_alloc | apply pw_below_drewN | apply below_drew1) | exact HB.out))) : w.heap.size ≤ gb101)); have n3_ := Aside0.mk ((by rw [hg]; exact (below_size (by repeat (first | (with_reducible first | exact HB.out | apply below_alloc | apply pw_below_drewN | apply below_drew1) | exact HB.out))) : w.heap.size ≤ gb101)); clear HB; have HB := n0_; have BK101 := n1_; have GW101 := n2_; have GE101 := n3_; clear n0_ n1_ n2_ n3_; clear hb hbox hg) | ((with_reducible refine gate_dst (N := 4) rfl ?_); refine box_event ?hg (N := 4) ?hd (cs := #[.int .i64 0, .int .i64 0, .int .i64 0]) (t := 33) ?hr ?_; (case hd => rfl); (case hg => rfl); (case hr => first | (go_simp; done) | (go_simp; rfl)); intro gb102 hg w8 hbox hb; have n0_ := Aside0.mk (blk_below (g := gb101) (o := .cells #[.int .i64 a0_0, .int .i64 a0_1, .int .i64 a0_2] 33 (0, 0)) (by (with_reducible repeat (first | refine blk_drewN ?_ _ | refine blk_drew ?_ | refine blk_alloc ?_ _)); exact BK101.out) hb); have n1_ := Aside0.mk (below_step (by repeat (first | (with_reducible first | exact HB.out | apply below_alloc | apply pw_below_drewN | apply below_drew1 | refine below_set ?_ GE101.out) | exact HB.out)) hb); have n2_ := Aside0.mk (hbox); have n3_ := Aside0.mk ((by rw [hg]; exact (below_size (by repeat (first | (with_reducible first | exact HB.out | apply below_alloc | apply pw_below_drewN | apply below_drew1 | refine below_set ?_ GE101.out) | exact HB.out))) : w.heap.size ≤ gb102)); have n4_ := Aside0.mk ((by rw [hg]; exact (below_size (by repeat (first | (with_reducible first | exact HB.out | apply below_alloc | apply pw_below_drewN | apply below_drew1 | refine below_set ?_ GE101.out) | exact HB.out))) : w.heap.size ≤ gb102)); have n5_ := Aside0.mk ((by rw [hg]; exact Nat.ne_of_lt (blk_lt (g := gb101) (o := .cells #[.int .i64 a0_0, .int .i64 a0_1, .int .i64 a0_2] 33 (0, 0)) (by (with_reducible repeat (first | refine blk_drewN ?_ _ | refine blk_drew ?_ | refine blk_alloc ?_ _)); exact BK101.out)) : gb101 ≠ gb102)); have n6_ := Aside0.mk ((by rw [hg]; exact Nat.ne_of_gt (blk_lt (g := gb101) (o := .cells #[.int .i64 a0_0, .int .i64 a0_1, .int .i64 a0_2] 33 (0, 0)) (by (with_reducible repeat (first | refine blk_drewN ?_ _ | refine blk_drew ?_ | refine blk_alloc ?_ _)); exact BK101.out)) : gb102 ≠ gb101)); clear BK101; clear HB; have BK101 := n0_; have HB := n1_; have BK102 := n2_; have GW102 := n3_; have GE102 := n4_; have NB101_102 := n5_; have NB102_101 := n6_; clear n0_ n1_ n2_ n3_ n4_ n5_ n6_; clear hb hbox hg; have hnb9 := NB101_102.out; have hnc9 := NB102_101.out; have hcz10_0 : w8.cell? ⟨gb101, 0, none⟩ = some (.int .i64 a0_0) := (blk_cell BK101.out 0).trans rfl; have hcz10_1 : w8.cell? ⟨gb101, 1, none⟩ = some (.int .i64 a0_1) := (blk_cell BK101.out 1).trans rfl; have hcz10_2 : w8.cell? ⟨gb101, 2, none⟩ = some (.int .i64 a0_2) := (blk_cell BK101.out 2).trans rfl; have hfz10_0 := blk_frozen BK101.out 0; have hfz10_1 := blk_frozen BK101.out 1; have hfz10_2 := blk_frozen BK101.out 2) | ((with_reducible refine gate_callee (f := 112) rfl ?_); refine goesL_ (some 7) rfl rfl Try.func112 (by kernel_rfl) rfl #[.agg #[.int .i64 a0_0, .int .i64 a0_1, .int .i64 a0_2]] rfl (by (try simp only [List.map_toArray, List.map_cons, List.map_nil]); first | done | rfl | (simp only [List.length_drop, List.length_take]; rfl)) ?_; (with_reducible refine (spec_RackOk.calls a0_0 a0_1 a0_2 true _ A3.out).mono ?_); rintro e w11 ⟨rfl, hb⟩; refine ⟨_, rfl, ?_⟩; have n0_ := Aside0.mk (blk_below (g := gb101) (o := .cells #[.int .i64 a0_0, .int .i64 a0_1, .int .i64 a0_2] 33 (0, 0)) (by (with_reducible repeat (first | refine blk_drewN ?_ _ | refine blk_drew ?_ | refine blk_alloc ?_ _)); exact BK101.out) hb); have n1_ := Aside0.mk (blk_below (g := gb102) (o := .cells #[.int .i64 0, .int .i64 0, .int .i64 0] 33 (0, 0)) (by (with_reducible repeat (first | refine blk_drewN ?_ _ | refine blk_drew ?_ | refine blk_alloc ?_ _)); exact BK102.out) hb); have n2_ := Aside0.mk (below_step (by repeat (first | (with_reducible first | exact HB.out | apply below_alloc | apply pw_below_drewN | apply below_drew1 | refine below_set ?_ GE101.out | refine below_set ?_ GE102.out) | exact HB.out)) hb); clear BK101; clear BK102; clear HB; have BK101 := n0_; have BK102 := n1_; have HB := n2_; clear n0_ n1_ n2_; (try clear hb); (try clear hb2); (try clear hk); (try clear hi)) | (go_at_call 38; (with_reducible refine (spec_l01In.calls a1 0 10000 true _ A5.out).mono ?_); rintro e w' ⟨rfl, ⟨nd, rfl⟩⟩; (try (rw [drewN_self w11]; generalize hq_ : World.drewN w11 _ = w11; have n0_ : Aside0 (w11.heap[gb101]? = some (.cells #[.int .i64 a0_0, .int .i64 a0_1, .int .i64 a0_2] 33 (0, 0))) := ⟨by rw [← hq_]; exact (by (with_reducible repeat (first | refine blk_drewN ?_ _ | refine blk_drew ?_ | refine blk_alloc ?_ _)); exact BK101.out)⟩; have n1_ : Aside0 (w11.heap[gb102]? = some (.cells #[.int .i64 0, .int .i64 0, .int .i64 0] 33 (0, 0))) := ⟨by rw [← hq_]; exact (by (with_reducible repeat (first | refine blk_drewN ?_ _ | refine blk_drew ?_ | refine blk_alloc ?_ _)); exact BK102.out)⟩; have n2_ : Aside0 (Below w.heap.size w w11) := ⟨by rw [← hq_]; exact (by repeat (first | (with_reducible first | exact HB.out | apply below_alloc | apply pw_below_drewN | apply below_drew1 | refine below_set ?_ GE101.out | refine below_set ?_ GE102.out) | exact HB.out))⟩; clear BK101 BK102 HB hq_; have BK101 := n0_; have BK102 := n1_; have HB := n2_; clear n0_ n1_ n2_))))
      have n0_ := Aside0.mk (blk_drew BK101.out)
      have n1_ := Aside0.mk (blk_drew BK102.out)
      have n2_ := Aside0.mk (below_drew1 HB.out)
      clear BK101
      clear BK102
      clear HB
      have BK101 := n0_
      have BK102 := n1_
      have HB := n2_
      clear n0_ n1_ n2_
      refine start_ (n := 10) (S := fun w' => w'.cell? ⟨gb101, 0, none⟩ = some (.int .i64 a0_0) ∧ w'.cell? ⟨gb101, 1, none⟩ = some (.int .i64 a0_1) ∧ w'.cell? ⟨gb101, 2, none⟩ = some (.int .i64 a0_2)) (ds := []) #[false, false, false, false, false, false, false, false, false, false] (by kernel_rfl) rfl rfl ⟨(blk_cell BK101.out 0).trans rfl, (blk_cell BK101.out 1).trans rfl, (blk_cell BK101.out 2).trans rfl⟩ (fun hHeld => ?_); refine with_tabW spec_NextMorning.tab3 spec_NextMorning.bits3 (fun HT_ HW_ => ?_)
      generalize w11.drew = w12 at BK101 BK102 HB hHeld ⊢
      refine pure_ (i := 0) (N := some 15) (v := ?_) (a' := ?_) #[true, false, false, false, false, false, false, false, false, false] rfl rfl (any_of HT_.out (by kernel_rfl)) (fun _ _ _ h => h) (Or.inl ⟨by rfl, ?_⟩) ?_ ?_
      rotate_left
      · intro w'
        go_simp
        with_reducible rfl
      rotate_left
      · simp only [Act.put, List.setIfInBounds_toArray, List.set_cons_zero, List.set_cons_succ, i64_w, i32_w]
        rfl
      refine pure_ (i := 1) (N := some 16) (v := ?_) (a' := ?_) #[true, true, false, false, false, false, false, false, false, false] rfl rfl (any_of HT_.out (by kernel_rfl)) (fun _ _ _ h => h) (Or.inl ⟨by rfl, ?_⟩) ?_ ?_
      rotate_left
      · intro w'
        go_simp
        with_reducible rfl
      rotate_left
      · simp only [Act.put, List.setIfInBounds_toArray, List.set_cons_zero, List.set_cons_succ, i64_w, i32_w]
        rfl
      refine pure_ (i := 3) (N := some 18) (v := ?_) (a' := ?_) #[true, true, false, true, false, false, false, false, false, false] rfl rfl (any_of HT_.out (by kernel_rfl)) (fun _ _ _ h => h) (Or.inl ⟨by rfl, ?_⟩) ?_ ?_
      rotate_left
      · intro w'
        go_simp
        with_reducible rfl
      rotate_left
      · simp only [Act.put, List.setIfInBounds_toArray, List.set_cons_zero, List.set_cons_succ, i64_w, i32_w]
        rfl
      refine pure_ (i := 6) (N := some 21) (v := ?_) (a' := ?_) #[true, true, false, true, false, false, true, false, false, false] rfl rfl (any_of HT_.out (by kernel_rfl)) (fun _ _ _ h => h) (Or.inl ⟨by rfl, ?_⟩) ?_ ?_
      rotate_left
      · intro w'
        go_simp
        with_reducible rfl
      rotate_left
      · simp only [Act.put, List.setIfInBounds_toArray, List.set_cons_zero, List.set_cons_succ, i64_w, i32_w]
        rfl
      refine take_ (i := 2) (N := some 17) (v := ?_) (a' := ?_) #[true, true, true, true, false, false, true, false, false, false] rfl rfl (take_ofW HT_.out HW_.out (by kernel_rfl)) (fun _ _ _ h => h) (Or.inl ⟨by rfl, ?_⟩) hHeld ?_ ?_
      rotate_left
      · rintro w' ⟨s0, s1, s2⟩
        go_simp
        with_reducible rfl
      rotate_left
      · simp only [Act.put, List.setIfInBounds_toArray, List.set_cons_zero, List.set_cons_succ, i64_w, i32_w]
        rfl
      refine take_ (i := 4) (N := some 19) (v := ?_) (a' := ?_) #[true, true, true, true, true, false, true, false, false, false] rfl rfl (take_ofW HT_.out HW_.out (by kernel_rfl)) (fun _ _ _ h => h) (Or.inl ⟨by rfl, ?_⟩) hHeld ?_ ?_
      rotate_left
      · rintro w' ⟨s0, s1, s2⟩
        go_simp
        with_reducible rfl
      rotate_left
      · simp only [Act.put, List.setIfInBounds_toArray, List.set_cons_zero, List.set_cons_succ, i64_w, i32_w]
        rfl
      refine pure_ (i := 5) (N := some 20) (v := ?_) (a' := ?_) #[true, true, true, true, true, true, true, false, false, false] rfl rfl (any_of HT_.out (by kernel_rfl)) (fun _ _ _ h => h) (Or.inl ⟨by rfl, ?_⟩) ?_ ?_
      rotate_left
      · intro w'
        go_simp
        with_reducible rfl
      rotate_left
      · simp only [Act.put, List.setIfInBounds_toArray, List.set_cons_zero, List.set_cons_succ, i64_w, i32_w]
        rfl
      refine take_ (i := 7) (N := some 22) (v := ?_) (a' := ?_) #[true, true, true, true, true, true, true, true, false, false] rfl rfl (take_ofW HT_.out HW_.out (by kernel_rfl)) (fun _ _ _ h => h) (Or.inl ⟨by rfl, ?_⟩) hHeld ?_ ?_
      rotate_left
      · rintro w' ⟨s0, s1, s2⟩
        go_simp
        with_reducible rfl
      rotate_left
      · simp only [Act.put, List.setIfInBounds_toArray, List.set_cons_zero, List.set_cons_succ, i64_w, i32_w]
        rfl
      refine one_ (i := 8) (N := none) #[true, true, true, true, true, true, true, true, true, false] rfl rfl (one_of HT_.out (by kernel_rfl)) (by decide) (fun K hK => ?_)
      have hs13 : w12.cell? ⟨gb102, 0, none⟩ = some (.int .i64 0) := (blk_cell BK102.out 0).trans rfl
      have hfs13 := blk_frozen BK102.out 0
      have hns13_0 := NB101_102.out
      have hms13_0 := NB102_101.out
      have hs14 : w12.cell? ⟨gb102, 1, none⟩ = some (.int .i64 0) := (blk_cell BK102.out 1).trans rfl
      have hfs14 := blk_frozen BK102.out 1
      have hns14_0 := NB101_102.out
      have hms14_0 := NB102_101.out
      have hs15 : w12.cell? ⟨gb102, 2, none⟩ = some (.int .i64 0) := (blk_cell BK102.out 2).trans rfl
      have hfs15 := blk_frozen BK102.out 2
      have hns15_0 := NB101_102.out
      have hms15_0 := NB102_101.out
      refine skip_ (w1 := ?_) (by rfl) rfl ?_ ?_
      rotate_left
      · go_simp
        rfl
      refine hK.out _ _ ⟨((cell_far (p := ⟨gb102, _, none⟩) NB101_102.out _).trans (((cell_far (p := ⟨gb102, _, none⟩) NB101_102.out _).trans (((cell_far (p := ⟨gb102, _, none⟩) NB101_102.out _).trans (hHeld.1)))))), ((cell_far (p := ⟨gb102, _, none⟩) NB101_102.out _).trans (((cell_far (p := ⟨gb102, _, none⟩) NB101_102.out _).trans (((cell_far (p := ⟨gb102, _, none⟩) NB101_102.out _).trans (hHeld.2.1)))))), ((cell_far (p := ⟨gb102, _, none⟩) NB101_102.out _).trans (((cell_far (p := ⟨gb102, _, none⟩) NB101_102.out _).trans (((cell_far (p := ⟨gb102, _, none⟩) NB101_102.out _).trans (hHeld.2.2))))))⟩ (fun hHeld => ?_)
      clear hK K
      refine pure_ (i := 9) (N := some 5) (v := ?_) (a' := ?_) #[true, true, true, true, true, true, true, true, true, true] rfl rfl (any_of HT_.out (by kernel_rfl)) (fun _ _ _ h => h) (Or.inl ⟨by rfl, ?_⟩) ?_ ?_
      rotate_left
      · intro w'
        go_simp
        with_reducible rfl
      rotate_left
      · simp only [Act.put, List.setIfInBounds_toArray, List.set_cons_zero, List.set_cons_succ, i64_w, i32_w]
        rfl
      refine done_ (done_of HT_.out (by kernel_rfl)) ?_
      try go_wp2
      refine bodyPost_ret (results_ct rfl _ _ gb102 33 #[.int .i64 a1, .int .i64 a0_0, .int .i64 a0_1] (0, 0) _ rfl (by (with_reducible repeat (first | refine blk_drewN ?_ _ | refine blk_drew ?_ | refine blk_alloc ?_ _)); refine blk_put (cs := #[.int .i64 a1, .int .i64 a0_0, .int .i64 0]) ?_ 2 _ rfl; (with_reducible repeat (first | refine blk_drewN ?_ _ | refine blk_drew ?_ | refine blk_alloc ?_ _)); refine blk_put (cs := #[.int .i64 a1, .int .i64 0, .int .i64 0]) ?_ 1 _ rfl; (with_reducible repeat (first | refine blk_drewN ?_ _ | refine blk_drew ?_ | refine blk_alloc ?_ _)); refine blk_put (cs := #[.int .i64 0, .int .i64 0, .int .i64 0]) ?_ 0 _ rfl; (with_reducible repeat (first | refine blk_drewN ?_ _ | refine blk_drew ?_ | refine blk_alloc ?_ _)); exact BK102.out) Try.underlying33 rfl (by kernel_rfl)) rfl ?_
      exact ⟨by first | rfl | (simp [errW_none, errW_some] <;> rfl) | (simp [*, errW_none, errW_some] <;> rfl), by repeat (first | (with_reducible first | exact HB.out | apply below_alloc | apply pw_below_drewN | apply below_drew1 | refine below_set ?_ GE101.out | refine below_set ?_ GE102.out) | exact HB.out)⟩
    · replace c6 := Bool.eq_false_iff.mpr c6
      subst c6
      have H1 : (some (a0_0, a0_1, a0_2, (-1))) = some (r1, r2, r3, r4) := by rw [if_neg (show ¬ (false = true) by decide)] at H; exact H
      clear H
      have H := H1
      clear H1
      simp only [Option.some.injEq, Prod.mk.injEq] at H
      obtain ⟨rfl, rfl, rfl, rfl⟩ := H
      go_enter Try.func115, Try.ntmps115
      go_wp2_with (first | ((with_reducible refine gate_dst (N := 2) rfl ?_); refine box_event ?hg (N := 2) ?hd (cs := #[.int .i64 a0_0, .int .i64 a0_1, .int .i64 a0_2]) (t := 33) ?hr ?_; (case hd => rfl); (case hg => rfl); (case hr => first | (go_simp; done) | (go_simp; rfl)); intro gb101 hg w16 hbox hb; have n0_ := Aside0.mk (below_step (by repeat (first | (with_reducible first | exact HB.out | apply below_alloc | apply pw_below_drewN | apply below_drew1) | exact HB.out)) hb); have n1_ := Aside0.mk (hbox); have n2_ := Aside0.mk ((by rw [hg]; exact (below_size (by repeat (first | (with_reducible first | exact HB.out | apply below_alloc | apply pw_below_drewN | apply below_drew1) | exact HB.out))) : w.heap.size ≤ gb101)); have n3_ := Aside0.mk ((by rw [hg]; exact (below_size (by repeat (first | (with_reducible first | exact HB.out | apply below_alloc | apply pw_below_drewN | apply below_drew1) | exact HB.out))) : w.heap.size ≤ gb101)); clear HB; have HB := n0_; have BK101 := n1_; have GW101 := n2_; have GE101 := n3_; clear n0_ n1_ n2_ n3_; clear hb hbox hg) | ((with_reducible refine gate_dst (N := 4) rfl ?_); refine box_event ?hg (N := 4) ?hd (cs := #[.int .i64 0, .int .i64 0, .int .i64 0]) (t := 33) ?hr ?_; (case hd => rfl); (case hg => rfl); (case hr => first | (go_simp; done) | (go_simp; rfl)); intro gb102 hg w17 hbox hb; have n0_ := Aside0.mk (blk_below (g := gb101) (o := .cells #[.int .i64 a0_0, .int .i64 a0_1, .int .i64 a0_2] 33 (0, 0)) (by (with_reducible repeat (first | refine blk_drewN ?_ _ | refine blk_drew ?_ | refine blk_alloc ?_ _)); exact BK101.out) hb); have n1_ := Aside0.mk (below_step (by repeat (first | (with_reducible first | exact HB.out | apply below_alloc | apply pw_below_drewN | apply below_drew1 | refine below_set ?_ GE101.out) | exact HB.out)) hb); have n2_ := Aside0.mk (hbox); have n3_ := Aside0.mk ((by rw [hg]; exact (below_size (by repeat (first | (with_reducible first | exact HB.out | apply below_alloc | apply pw_below_drewN | apply below_drew1 | refine below_set ?_ GE101.out) | exact HB.out))) : w.heap.size ≤ gb102)); have n4_ := Aside0.mk ((by rw [hg]; exact (below_size (by repeat (first | (with_reducible first | exact HB.out | apply below_alloc | apply pw_below_drewN | apply below_drew1 | refine below_set ?_ GE101.out) | exact HB.out))) : w.heap.size ≤ gb102)); have n5_ := Aside0.mk ((by rw [hg]; exact Nat.ne_of_lt (blk_lt (g := gb101) (o := .cells #[.int .i64 a0_0, .int .i64 a0_1, .int .i64 a0_2] 33 (0, 0)) (by (with_reducible repeat (first | refine blk_drewN ?_ _ | refine blk_drew ?_ | refine blk_alloc ?_ _)); exact BK101.out)) : gb101 ≠ gb102)); have n6_ := Aside0.mk ((by rw [hg]; exact Nat.ne_of_gt (blk_lt (g := gb101) (o := .cells #[.int .i64 a0_0, .int .i64 a0_1, .int .i64 a0_2] 33 (0, 0)) (by (with_reducible repeat (first | refine blk_drewN ?_ _ | refine blk_drew ?_ | refine blk_alloc ?_ _)); exact BK101.out)) : gb102 ≠ gb101)); clear BK101; clear HB; have BK101 := n0_; have HB := n1_; have BK102 := n2_; have GW102 := n3_; have GE102 := n4_; have NB101_102 := n5_; have NB102_101 := n6_; clear n0_ n1_ n2_ n3_ n4_ n5_ n6_; clear hb hbox hg; have hnb18 := NB101_102.out; have hnc18 := NB102_101.out; have hcz19_0 : w17.cell? ⟨gb101, 0, none⟩ = some (.int .i64 a0_0) := (blk_cell BK101.out 0).trans rfl; have hcz19_1 : w17.cell? ⟨gb101, 1, none⟩ = some (.int .i64 a0_1) := (blk_cell BK101.out 1).trans rfl; have hcz19_2 : w17.cell? ⟨gb101, 2, none⟩ = some (.int .i64 a0_2) := (blk_cell BK101.out 2).trans rfl; have hfz19_0 := blk_frozen BK101.out 0; have hfz19_1 := blk_frozen BK101.out 1; have hfz19_2 := blk_frozen BK101.out 2) | ((with_reducible refine gate_callee (f := 112) rfl ?_); refine goesL_ (some 7) rfl rfl Try.func112 (by kernel_rfl) rfl #[.agg #[.int .i64 a0_0, .int .i64 a0_1, .int .i64 a0_2]] rfl (by (try simp only [List.map_toArray, List.map_cons, List.map_nil]); first | done | rfl | (simp only [List.length_drop, List.length_take]; rfl)) ?_; (with_reducible refine (spec_RackOk.calls a0_0 a0_1 a0_2 true _ A3.out).mono ?_); rintro e w20 ⟨rfl, hb⟩; refine ⟨_, rfl, ?_⟩; have n0_ := Aside0.mk (blk_below (g := gb101) (o := .cells #[.int .i64 a0_0, .int .i64 a0_1, .int .i64 a0_2] 33 (0, 0)) (by (with_reducible repeat (first | refine blk_drewN ?_ _ | refine blk_drew ?_ | refine blk_alloc ?_ _)); exact BK101.out) hb); have n1_ := Aside0.mk (blk_below (g := gb102) (o := .cells #[.int .i64 0, .int .i64 0, .int .i64 0] 33 (0, 0)) (by (with_reducible repeat (first | refine blk_drewN ?_ _ | refine blk_drew ?_ | refine blk_alloc ?_ _)); exact BK102.out) hb); have n2_ := Aside0.mk (below_step (by repeat (first | (with_reducible first | exact HB.out | apply below_alloc | apply pw_below_drewN | apply below_drew1 | refine below_set ?_ GE101.out | refine below_set ?_ GE102.out) | exact HB.out)) hb); clear BK101; clear BK102; clear HB; have BK101 := n0_; have BK102 := n1_; have HB := n2_; clear n0_ n1_ n2_; (try clear hb); (try clear hb2); (try clear hk); (try clear hi)) | (go_at_call 38; (with_reducible refine (spec_l01In.calls a1 0 10000 false _ A5.out).mono ?_); rintro e w' ⟨rfl, ⟨nd, rfl⟩⟩; (try (rw [drewN_self w20]; generalize hq_ : World.drewN w20 _ = w20; have n0_ : Aside0 (w20.heap[gb101]? = some (.cells #[.int .i64 a0_0, .int .i64 a0_1, .int .i64 a0_2] 33 (0, 0))) := ⟨by rw [← hq_]; exact (by (with_reducible repeat (first | refine blk_drewN ?_ _ | refine blk_drew ?_ | refine blk_alloc ?_ _)); exact BK101.out)⟩; have n1_ : Aside0 (w20.heap[gb102]? = some (.cells #[.int .i64 0, .int .i64 0, .int .i64 0] 33 (0, 0))) := ⟨by rw [← hq_]; exact (by (with_reducible repeat (first | refine blk_drewN ?_ _ | refine blk_drew ?_ | refine blk_alloc ?_ _)); exact BK102.out)⟩; have n2_ : Aside0 (Below w.heap.size w w20) := ⟨by rw [← hq_]; exact (by repeat (first | (with_reducible first | exact HB.out | apply below_alloc | apply pw_below_drewN | apply below_drew1 | refine below_set ?_ GE101.out | refine below_set ?_ GE102.out) | exact HB.out))⟩; clear BK101 BK102 HB hq_; have BK101 := n0_; have BK102 := n1_; have HB := n2_; clear n0_ n1_ n2_)); have hcz21_0 : w20.cell? ⟨gb101, 0, none⟩ = some (.int .i64 a0_0) := (blk_cell BK101.out 0).trans rfl; have hcz21_1 : w20.cell? ⟨gb101, 1, none⟩ = some (.int .i64 a0_1) := (blk_cell BK101.out 1).trans rfl; have hcz21_2 : w20.cell? ⟨gb101, 2, none⟩ = some (.int .i64 a0_2) := (blk_cell BK101.out 2).trans rfl; have hfz21_0 := blk_frozen BK101.out 0; have hfz21_1 := blk_frozen BK101.out 1; have hfz21_2 := blk_frozen BK101.out 2; have hcz22_0 : w20.cell? ⟨gb102, 0, none⟩ = some (.int .i64 0) := (blk_cell BK102.out 0).trans rfl; have hcz22_1 : w20.cell? ⟨gb102, 1, none⟩ = some (.int .i64 0) := (blk_cell BK102.out 1).trans rfl; have hcz22_2 : w20.cell? ⟨gb102, 2, none⟩ = some (.int .i64 0) := (blk_cell BK102.out 2).trans rfl; have hfz22_0 := blk_frozen BK102.out 0; have hfz22_1 := blk_frozen BK102.out 1; have hfz22_2 := blk_frozen BK102.out 2))
      refine bodyPost_ret (results_ct rfl _ _ gb102 33 #[.int .i64 a0_0, .int .i64 a0_1, .int .i64 a0_2] (0, 0) _ rfl (by (with_reducible repeat (first | refine blk_drewN ?_ _ | refine blk_drew ?_ | refine blk_alloc ?_ _)); refine blk_put (cs := #[.int .i64 a0_0, .int .i64 a0_1, .int .i64 0]) ?_ 2 _ rfl; (with_reducible repeat (first | refine blk_drewN ?_ _ | refine blk_drew ?_ | refine blk_alloc ?_ _)); refine blk_put (cs := #[.int .i64 a0_0, .int .i64 0, .int .i64 0]) ?_ 1 _ rfl; (with_reducible repeat (first | refine blk_drewN ?_ _ | refine blk_drew ?_ | refine blk_alloc ?_ _)); refine blk_put (cs := #[.int .i64 0, .int .i64 0, .int .i64 0]) ?_ 0 _ rfl; (with_reducible repeat (first | refine blk_drewN ?_ _ | refine blk_drew ?_ | refine blk_alloc ?_ _)); exact BK102.out) Try.underlying33 rfl (by kernel_rfl)) rfl ?_
      exact ⟨by first | rfl | (simp [errW_none, errW_some] <;> rfl) | (simp [*, errW_none, errW_some] <;> rfl), by repeat (first | (with_reducible first | exact HB.out | apply below_alloc | apply pw_below_drewN | apply below_drew1 | refine below_set ?_ GE101.out | refine below_set ?_ GE102.out) | exact HB.out)⟩
  · replace c4 := Bool.eq_false_iff.mpr c4
    subst c4
    have H1 : (some (a0_0, a0_1, a0_2, (-1))) = some (r1, r2, r3, r4) := by rw [if_neg (show ¬ (false = true) by decide)] at H; exact H
    clear H
    have H := H1
    clear H1
    simp only [Option.some.injEq, Prod.mk.injEq] at H
    obtain ⟨rfl, rfl, rfl, rfl⟩ := H
    go_enter Try.func115, Try.ntmps115
    go_wp2_with (first | ((with_reducible refine gate_dst (N := 2) rfl ?_); refine box_event ?hg (N := 2) ?hd (cs := #[.int .i64 a0_0, .int .i64 a0_1, .int .i64 a0_2]) (t := 33) ?hr ?_; (case hd => rfl); (case hg => rfl); (case hr => first | (go_simp; done) | (go_simp; rfl)); intro gb101 hg w23 hbox hb; have n0_ := Aside0.mk (below_step (by repeat (first | (with_reducible first | exact HB.out | apply below_alloc | apply pw_below_drewN | apply below_drew1) | exact HB.out)) hb); have n1_ := Aside0.mk (hbox); have n2_ := Aside0.mk ((by rw [hg]; exact (below_size (by repeat (first | (with_reducible first | exact HB.out | apply below_alloc | apply pw_below_drewN | apply below_drew1) | exact HB.out))) : w.heap.size ≤ gb101)); have n3_ := Aside0.mk ((by rw [hg]; exact (below_size (by repeat (first | (with_reducible first | exact HB.out | apply below_alloc | apply pw_below_drewN | apply below_drew1) | exact HB.out))) : w.heap.size ≤ gb101)); clear HB; have HB := n0_; have BK101 := n1_; have GW101 := n2_; have GE101 := n3_; clear n0_ n1_ n2_ n3_; clear hb hbox hg) | ((with_reducible refine gate_dst (N := 4) rfl ?_); refine box_event ?hg (N := 4) ?hd (cs := #[.int .i64 0, .int .i64 0, .int .i64 0]) (t := 33) ?hr ?_; (case hd => rfl); (case hg => rfl); (case hr => first | (go_simp; done) | (go_simp; rfl)); intro gb102 hg w24 hbox hb; have n0_ := Aside0.mk (blk_below (g := gb101) (o := .cells #[.int .i64 a0_0, .int .i64 a0_1, .int .i64 a0_2] 33 (0, 0)) (by (with_reducible repeat (first | refine blk_drewN ?_ _ | refine blk_drew ?_ | refine blk_alloc ?_ _)); exact BK101.out) hb); have n1_ := Aside0.mk (below_step (by repeat (first | (with_reducible first | exact HB.out | apply below_alloc | apply pw_below_drewN | apply below_drew1 | refine below_set ?_ GE101.out) | exact HB.out)) hb); have n2_ := Aside0.mk (hbox); have n3_ := Aside0.mk ((by rw [hg]; exact (below_size (by repeat (first | (with_reducible first | exact HB.out | apply below_alloc | apply pw_below_drewN | apply below_drew1 | refine below_set ?_ GE101.out) | exact HB.out))) : w.heap.size ≤ gb102)); have n4_ := Aside0.mk ((by rw [hg]; exact (below_size (by repeat (first | (with_reducible first | exact HB.out | apply below_alloc | apply pw_below_drewN | apply below_drew1 | refine below_set ?_ GE101.out) | exact HB.out))) : w.heap.size ≤ gb102)); have n5_ := Aside0.mk ((by rw [hg]; exact Nat.ne_of_lt (blk_lt (g := gb101) (o := .cells #[.int .i64 a0_0, .int .i64 a0_1, .int .i64 a0_2] 33 (0, 0)) (by (with_reducible repeat (first | refine blk_drewN ?_ _ | refine blk_drew ?_ | refine blk_alloc ?_ _)); exact BK101.out)) : gb101 ≠ gb102)); have n6_ := Aside0.mk ((by rw [hg]; exact Nat.ne_of_gt (blk_lt (g := gb101) (o := .cells #[.int .i64 a0_0, .int .i64 a0_1, .int .i64 a0_2] 33 (0, 0)) (by (with_reducible repeat (first | refine blk_drewN ?_ _ | refine blk_drew ?_ | refine blk_alloc ?_ _)); exact BK101.out)) : gb102 ≠ gb101)); clear BK101; clear HB; have BK101 := n0_; have HB := n1_; have BK102 := n2_; have GW102 := n3_; have GE102 := n4_; have NB101_102 := n5_; have NB102_101 := n6_; clear n0_ n1_ n2_ n3_ n4_ n5_ n6_; clear hb hbox hg; have hnb25 := NB101_102.out; have hnc25 := NB102_101.out; have hcz26_0 : w24.cell? ⟨gb101, 0, none⟩ = some (.int .i64 a0_0) := (blk_cell BK101.out 0).trans rfl; have hcz26_1 : w24.cell? ⟨gb101, 1, none⟩ = some (.int .i64 a0_1) := (blk_cell BK101.out 1).trans rfl; have hcz26_2 : w24.cell? ⟨gb101, 2, none⟩ = some (.int .i64 a0_2) := (blk_cell BK101.out 2).trans rfl; have hfz26_0 := blk_frozen BK101.out 0; have hfz26_1 := blk_frozen BK101.out 1; have hfz26_2 := blk_frozen BK101.out 2) | ((with_reducible refine gate_callee (f := 112) rfl ?_); refine goesL_ (some 7) rfl rfl Try.func112 (by kernel_rfl) rfl #[.agg #[.int .i64 a0_0, .int .i64 a0_1, .int .i64 a0_2]] rfl (by (try simp only [List.map_toArray, List.map_cons, List.map_nil]); first | done | rfl | (simp only [List.length_drop, List.length_take]; rfl)) ?_; (with_reducible refine (spec_RackOk.calls a0_0 a0_1 a0_2 false _ A3.out).mono ?_); rintro e w27 ⟨rfl, hb⟩; refine ⟨_, rfl, ?_⟩; have n0_ := Aside0.mk (blk_below (g := gb101) (o := .cells #[.int .i64 a0_0, .int .i64 a0_1, .int .i64 a0_2] 33 (0, 0)) (by (with_reducible repeat (first | refine blk_drewN ?_ _ | refine blk_drew ?_ | refine blk_alloc ?_ _)); exact BK101.out) hb); have n1_ := Aside0.mk (blk_below (g := gb102) (o := .cells #[.int .i64 0, .int .i64 0, .int .i64 0] 33 (0, 0)) (by (with_reducible repeat (first | refine blk_drewN ?_ _ | refine blk_drew ?_ | refine blk_alloc ?_ _)); exact BK102.out) hb); have n2_ := Aside0.mk (below_step (by repeat (first | (with_reducible first | exact HB.out | apply below_alloc | apply pw_below_drewN | apply below_drew1 | refine below_set ?_ GE101.out | refine below_set ?_ GE102.out) | exact HB.out)) hb); clear BK101; clear BK102; clear HB; have BK101 := n0_; have BK102 := n1_; have HB := n2_; clear n0_ n1_ n2_; (try clear hb); (try clear hb2); (try clear hk); (try clear hi); have hcz28_0 : w27.cell? ⟨gb101, 0, none⟩ = some (.int .i64 a0_0) := (blk_cell BK101.out 0).trans rfl; have hcz28_1 : w27.cell? ⟨gb101, 1, none⟩ = some (.int .i64 a0_1) := (blk_cell BK101.out 1).trans rfl; have hcz28_2 : w27.cell? ⟨gb101, 2, none⟩ = some (.int .i64 a0_2) := (blk_cell BK101.out 2).trans rfl; have hfz28_0 := blk_frozen BK101.out 0; have hfz28_1 := blk_frozen BK101.out 1; have hfz28_2 := blk_frozen BK101.out 2; have hcz29_0 : w27.cell? ⟨gb102, 0, none⟩ = some (.int .i64 0) := (blk_cell BK102.out 0).trans rfl; have hcz29_1 : w27.cell? ⟨gb102, 1, none⟩ = some (.int .i64 0) := (blk_cell BK102.out 1).trans rfl; have hcz29_2 : w27.cell? ⟨gb102, 2, none⟩ = some (.int .i64 0) := (blk_cell BK102.out 2).trans rfl; have hfz29_0 := blk_frozen BK102.out 0; have hfz29_1 := blk_frozen BK102.out 1; have hfz29_2 := blk_frozen BK102.out 2))
    refine bodyPost_ret (results_ct rfl _ _ gb102 33 #[.int .i64 a0_0, .int .i64 a0_1, .int .i64 a0_2] (0, 0) _ rfl (by (with_reducible repeat (first | refine blk_drewN ?_ _ | refine blk_drew ?_ | refine blk_alloc ?_ _)); refine blk_put (cs := #[.int .i64 a0_0, .int .i64 a0_1, .int .i64 0]) ?_ 2 _ rfl; (with_reducible repeat (first | refine blk_drewN ?_ _ | refine blk_drew ?_ | refine blk_alloc ?_ _)); refine blk_put (cs := #[.int .i64 a0_0, .int .i64 0, .int .i64 0]) ?_ 1 _ rfl; (with_reducible repeat (first | refine blk_drewN ?_ _ | refine blk_drew ?_ | refine blk_alloc ?_ _)); refine blk_put (cs := #[.int .i64 0, .int .i64 0, .int .i64 0]) ?_ 0 _ rfl; (with_reducible repeat (first | refine blk_drewN ?_ _ | refine blk_drew ?_ | refine blk_alloc ?_ _)); exact BK102.out) Try.underlying33 rfl (by kernel_rfl)) rfl ?_
    exact ⟨by first | rfl | (simp [errW_none, errW_some] <;> rfl) | (simp [*, errW_none, errW_some] <;> rfl), by repeat (first | (with_reducible first | exact HB.out | apply below_alloc | apply pw_below_drewN | apply below_drew1 | refine below_set ?_ GE101.out | refine below_set ?_ GE102.out) | exact HB.out)⟩
end Go.Proofs.Ytdlmincaplbpgaa.Q
namespace Go.Proofs.Ytdlmincaplbpgaa.Q
open Go.RowKit Go.Proofs.YtdlmincaplbpgaaW.PrintWords Go.Proofs.YtdlmincaplbpgaaW.PrintLast Go.Proofs.YtdlmincaplbpgaaW.PrintMore
attribute [local go_sem] max2_int min2_int max_two min_two max_three min_three max_four min_four
set_option linter.unusedVariables false
set_option linter.unusedSimpArgs false
def spec_SellCheap.f (a0_0 : Int) (a0_1 : Int) (a0_2 : Int) (a1 : Int) : Option (Int × Int × Int × Int) := (spec_RackOk.f a0_0 a0_1 a0_2).bind fun t103 => (if t103 = true then ((spec_l01In.f a1 0 10000).bind fun t104 => (if t104 = true then (some (a0_0, wrap64 (a0_1 - (mn (wrap64 (a1 - (mn a1 a0_2))) a0_1)), wrap64 (a0_2 - (mn a1 a0_2)), wrap64 ((mn a1 a0_2) + (mn (wrap64 (a1 - (mn a1 a0_2))) a0_1)))) else (some (a0_0, a0_1, a0_2, (-1))))) else (some (a0_0, a0_1, a0_2, (-1))))
set_option maxHeartbeats 8000000 in
set_option maxRecDepth 100000 in
theorem spec_SellCheap.calls (a0_0 : Int) (a0_1 : Int) (a0_2 : Int) (a1 : Int) (r1 : Int) (r2 : Int) (r3 : Int) (r4 : Int) (w : World) (h : spec_SellCheap.f a0_0 a0_1 a0_2 a1 = some (r1, r2, r3, r4)) :
    Calls Try.prog 114 #[.agg #[.int .i64 a0_0, .int .i64 a0_1, .int .i64 a0_2], .int .i64 a1] w fun e w' => e = .returned (.tuple #[.agg #[.int .i64 r1, .int .i64 r2, .int .i64 r3], .int .i64 r4]) ∧ Below w.heap.size w w' := by
  have hu33 := Try.underlying33
  have HB := Aside0.mk (Below.refl w.heap.size w)
  have H : ((spec_RackOk.f a0_0 a0_1 a0_2).bind fun t103 => (if t103 = true then ((spec_l01In.f a1 0 10000).bind fun t104 => (if t104 = true then (some (a0_0, wrap64 (a0_1 - (mn (wrap64 (a1 - (mn a1 a0_2))) a0_1)), wrap64 (a0_2 - (mn a1 a0_2)), wrap64 ((mn a1 a0_2) + (mn (wrap64 (a1 - (mn a1 a0_2))) a0_1)))) else (some (a0_0, a0_1, a0_2, (-1))))) else (some (a0_0, a0_1, a0_2, (-1))))) = some (r1, r2, r3, r4) := h
  clear h
  replace H := Option.bind_eq_some_iff.mp H
  obtain ⟨t103, A30, H⟩ := H
  replace H : (if t103 = true then ((spec_l01In.f a1 0 10000).bind fun t104 => (if t104 = true then (some (a0_0, wrap64 (a0_1 - (mn (wrap64 (a1 - (mn a1 a0_2))) a0_1)), wrap64 (a0_2 - (mn a1 a0_2)), wrap64 ((mn a1 a0_2) + (mn (wrap64 (a1 - (mn a1 a0_2))) a0_1)))) else (some (a0_0, a0_1, a0_2, (-1))))) else (some (a0_0, a0_1, a0_2, (-1)))) = some (r1, r2, r3, r4) := H
  have A3 := Aside0.mk A30
  clear A30
  by_cases c4 : t103 = true
  · subst c4
    have H1 : ((spec_l01In.f a1 0 10000).bind fun t104 => (if t104 = true then (some (a0_0, wrap64 (a0_1 - (mn (wrap64 (a1 - (mn a1 a0_2))) a0_1)), wrap64 (a0_2 - (mn a1 a0_2)), wrap64 ((mn a1 a0_2) + (mn (wrap64 (a1 - (mn a1 a0_2))) a0_1)))) else (some (a0_0, a0_1, a0_2, (-1))))) = some (r1, r2, r3, r4) := by rw [if_pos rfl] at H; exact H
    clear H
    have H := H1
    clear H1
    replace H := Option.bind_eq_some_iff.mp H
    obtain ⟨t104, A50, H⟩ := H
    replace H : (if t104 = true then (some (a0_0, wrap64 (a0_1 - (mn (wrap64 (a1 - (mn a1 a0_2))) a0_1)), wrap64 (a0_2 - (mn a1 a0_2)), wrap64 ((mn a1 a0_2) + (mn (wrap64 (a1 - (mn a1 a0_2))) a0_1)))) else (some (a0_0, a0_1, a0_2, (-1)))) = some (r1, r2, r3, r4) := H
    have A5 := Aside0.mk A50
    clear A50
    by_cases c6 : t104 = true
    · subst c6
      have H1 : (some (a0_0, wrap64 (a0_1 - (mn (wrap64 (a1 - (mn a1 a0_2))) a0_1)), wrap64 (a0_2 - (mn a1 a0_2)), wrap64 ((mn a1 a0_2) + (mn (wrap64 (a1 - (mn a1 a0_2))) a0_1)))) = some (r1, r2, r3, r4) := by rw [if_pos rfl] at H; exact H
      clear H
      have H := H1
      clear H1
      obtain ⟨ji7, hji7⟩ : ∃ j_ : Int, (mn a1 a0_2) = j_ := ⟨_, rfl⟩
      replace H : (some (a0_0, wrap64 (a0_1 - (mn (wrap64 (a1 - (ji7))) a0_1)), wrap64 (a0_2 - (ji7)), wrap64 ((ji7) + (mn (wrap64 (a1 - (ji7))) a0_1)))) = some (r1, r2, r3, r4) := by first | (rw [hji7] at H; exact H) | (simp only [hji7] at H ⊢; exact H)
      (try rw [hji7] at A3)
      (try rw [hji7] at A5)
      have hji7_ : (if a0_2 < a1 then a0_2 else a1) = ji7 := hji7
      obtain ⟨ji8, hji8⟩ : ∃ j_ : Int, (mn (wrap64 (a1 - (ji7))) a0_1) = j_ := ⟨_, rfl⟩
      replace H : (some (a0_0, wrap64 (a0_1 - (ji8)), wrap64 (a0_2 - (ji7)), wrap64 ((ji7) + (ji8)))) = some (r1, r2, r3, r4) := by first | (rw [hji8] at H; exact H) | (simp only [hji8] at H ⊢; exact H)
      (try rw [hji8] at A3)
      (try rw [hji8] at A5)
      have hji8_ : (if a0_1 < (wrap64 (a1 - (ji7))) then a0_1 else (wrap64 (a1 - (ji7)))) = ji8 := hji8
      simp only [Option.some.injEq, Prod.mk.injEq] at H
      obtain ⟨rfl, rfl, rfl, rfl⟩ := H
      go_enter Try.func114, Try.ntmps114
      go_wp2_with (first | ((with_reducible refine gate_dst (N := 2) rfl ?_); refine box_event ?hg (N := 2) ?hd (cs := #[.int .i64 a0_0, .int .i64 a0_1, .int .i64 a0_2]) (t := 33) ?hr ?_; (case hd => rfl); (case hg => rfl); (case hr => first | (go_simp; done) | (go_simp; rfl)); intro gb101 hg w9 hbox hb; have n0_ := Aside0.mk (below_step (by repeat (first | (with_reducible first | exact HB.out | apply below_alloc | apply pw_below_drewN | apply below_drew1) | exact HB.out)) hb); have n1_ := Aside0.mk (hbox); have n2_ := Aside0.mk ((by rw [hg]; exact (below_size (by repeat (first | (with_reducible first | exact HB.out | apply below_alloc | apply pw_below_drewN | apply below_drew1) | exact HB.out))) : w.heap.size ≤ gb101)); have n3_ := Aside0.mk ((by rw [hg]; exact (below_size (by repeat (first | (with_reducible first | exact HB.out | apply below_alloc | apply pw_below_drewN | apply below_drew1) | exact HB.out))) : w.heap.size ≤ gb101)); clear HB; have HB := n0_; have BK101 := n1_; have GW101 := n2_; have GE101 := n3_; clear n0_ n1_ n2_ n3_; clear hb hbox hg) | ((with_reducible refine gate_dst (N := 4) rfl ?_); refine box_event ?hg (N := 4) ?hd (cs := #[.int .i64 0, .int .i64 0, .int .i64 0]) (t := 33) ?hr ?_; (case hd => rfl); (case hg => rfl); (case hr => first | (go_simp; done) | (go_simp; rfl)); intro gb102 hg w10 hbox hb; have n0_ := Aside0.mk (blk_below (g := gb101) (o := .cells #[.int .i64 a0_0, .int .i64 a0_1, .int .i64 a0_2] 33 (0, 0)) (by (with_reducible repeat (first | refine blk_drewN ?_ _ | refine blk_drew ?_ | refine blk_alloc ?_ _)); exact BK101.out) hb); have n1_ := Aside0.mk (below_step (by repeat (first | (with_reducible first | exact HB.out | apply below_alloc | apply pw_below_drewN | apply below_drew1 | refine below_set ?_ GE101.out) | exact HB.out)) hb); have n2_ := Aside0.mk (hbox); have n3_ := Aside0.mk ((by rw [hg]; exact (below_size (by repeat (first | (with_reducible first | exact HB.out | apply below_alloc | apply pw_below_drewN | apply below_drew1 | refine below_set ?_ GE101.out) | exact HB.out))) : w.heap.size ≤ gb102)); have n4_ := Aside0.mk ((by rw [hg]; exact (below_size (by repeat (first | (with_reducible first | exact HB.out | apply below_alloc | apply pw_below_drewN | apply below_drew1 | refine below_set ?_ GE101.out) | exact HB.out))) : w.heap.size ≤ gb102)); have n5_ := Aside0.mk ((by rw [hg]; exact Nat.ne_of_lt (blk_lt (g := gb101) (o := .cells #[.int .i64 a0_0, .int .i64 a0_1, .int .i64 a0_2] 33 (0, 0)) (by (with_reducible repeat (first | refine blk_drewN ?_ _ | refine blk_drew ?_ | refine blk_alloc ?_ _)); exact BK101.out)) : gb101 ≠ gb102)); have n6_ := Aside0.mk ((by rw [hg]; exact Nat.ne_of_gt (blk_lt (g := gb101) (o := .cells #[.int .i64 a0_0, .int .i64 a0_1, .int .i64 a0_2] 33 (0, 0)) (by (with_reducible repeat (first | refine blk_drewN ?_ _ | refine blk_drew ?_ | refine blk_alloc ?_ _)); exact BK101.out)) : gb102 ≠ gb101)); clear BK101; clear HB; have BK101 := n0_; have HB := n1_; have BK102 := n2_; have GW102 := n3_; have GE102 := n4_; have NB101_102 := n5_; have NB102_101 := n6_; clear n0_ n1_ n2_ n3_ n4_ n5_ n6_; clear hb hbox hg; have hnb11 := NB101_102.out; have hnc11 := NB102_101.out; have hcz12_0 : w10.cell? ⟨gb101, 0, none⟩ = some (.int .i64 a0_0) := (blk_cell BK101.out 0).trans rfl; have hcz12_1 : w10.cell? ⟨gb101, 1, none⟩ = some (.int .i64 a0_1) := (blk_cell BK101.out 1).trans rfl; have hcz12_2 : w10.cell? ⟨gb101, 2, none⟩ = some (.int .i64 a0_2) := (blk_cell BK101.out 2).trans rfl; have hfz12_0 := blk_frozen BK101.out 0; have hfz12_1 := blk_frozen BK101.out 1; have hfz12_2 := blk_frozen BK101.out 2) | ((with_reducible refine gate_callee (f := 112) rfl ?_); refine goesL_ (some 9) rfl rfl Try.func112 (by kernel_rfl) rfl #[.agg #[.int .i64 a0_0, .int .i64 a0_1, .int .i64 a0_2]] rfl (by (try simp only [List.map_toArray, List.map_cons, List.map_nil]); first | done | rfl | (simp only [List.length_drop, List.length_take]; rfl)) ?_; (with_reducible refine (spec_RackOk.calls a0_0 a0_1 a0_2 true _ A3.out).mono ?_); rintro e w13 ⟨rfl, hb⟩; refine ⟨_, rfl, ?_⟩; have n0_ := Aside0.mk (blk_below (g := gb101) (o := .cells #[.int .i64 a0_0, .int .i64 a0_1, .int .i64 a0_2] 33 (0, 0)) (by (with_reducible repeat (first | refine blk_drewN ?_ _ | refine blk_drew ?_ | refine blk_alloc ?_ _)); exact BK101.out) hb); have n1_ := Aside0.mk (blk_below (g := gb102) (o := .cells #[.int .i64 0, .int .i64 0, .int .i64 0] 33 (0, 0)) (by (with_reducible repeat (first | refine blk_drewN ?_ _ | refine blk_drew ?_ | refine blk_alloc ?_ _)); exact BK102.out) hb); have n2_ := Aside0.mk (below_step (by repeat (first | (with_reducible first | exact HB.out | apply below_alloc | apply pw_below_drewN | apply below_drew1 | refine below_set ?_ GE101.out | refine below_set ?_ GE102.out) | exact HB.out)) hb); clear BK101; clear BK102; clear HB; have BK101 := n0_; have BK102 := n1_; have HB := n2_; clear n0_ n1_ n2_; (try clear hb); (try clear hb2); (try clear hk); (try clear hi)) | (go_at_call 38; (with_reducible refine (spec_l01In.calls a1 0 10000 true _ A5.out).mono ?_); rintro e w' ⟨rfl, ⟨nd, rfl⟩⟩; (try (rw [drewN_self w13]; generalize hq_ : World.drewN w13 _ = w13; have n0_ : Aside0 (w13.heap[gb101]? = some (.cells #[.int .i64 a0_0, .int .i64 a0_1, .int .i64 a0_2] 33 (0, 0))) := ⟨by rw [← hq_]; exact (by (with_reducible repeat (first | refine blk_drewN ?_ _ | refine blk_drew ?_ | refine blk_alloc ?_ _)); exact BK101.out)⟩; have n1_ : Aside0 (w13.heap[gb102]? = some (.cells #[.int .i64 0, .int .i64 0, .int .i64 0] 33 (0, 0))) := ⟨by rw [← hq_]; exact (by (with_reducible repeat (first | refine blk_drewN ?_ _ | refine blk_drew ?_ | refine blk_alloc ?_ _)); exact BK102.out)⟩; have n2_ : Aside0 (Below w.heap.size w w13) := ⟨by rw [← hq_]; exact (by repeat (first | (with_reducible first | exact HB.out | apply below_alloc | apply pw_below_drewN | apply below_drew1 | refine below_set ?_ GE101.out | refine below_set ?_ GE102.out) | exact HB.out))⟩; clear BK101 BK102 HB hq_; have BK101 := n0_; have BK102 := n1_; have HB := n2_; clear n0_ n1_ n2_)); have hcz14_0 : w13.cell? ⟨gb101, 0, none⟩ = some (.int .i64 a0_0) := (blk_cell BK101.out 0).trans rfl; have hcz14_1 : w13.cell? ⟨gb101, 1, none⟩ = some (.int .i64 a0_1) := (blk_cell BK101.out 1).trans rfl; have hcz14_2 : w13.cell? ⟨gb101, 2, none⟩ = some (.int .i64 a0_2) := (blk_cell BK101.out 2).trans rfl; have hfz14_0 := blk_frozen BK101.out 0; have hfz14_1 := blk_frozen BK101.out 1; have hfz14_2 := blk_frozen BK101.out 2; have hcz15_0 : w13.cell? ⟨gb102, 0, none⟩ = some (.int .i64 0) := (blk_cell BK102.out 0).trans rfl; have hcz15_1 : w13.cell? ⟨gb102, 1, none⟩ = some (.int .i64 0) := (blk_cell BK102.out 1).trans rfl; have hcz15_2 : w13.cell? ⟨gb102, 2, none⟩ = some (.int .i64 0) := (blk_cell BK102.out 2).trans rfl; have hfz15_0 := blk_frozen BK102.out 0; have hfz15_1 := blk_frozen BK102.out 1; have hfz15_2 := blk_frozen BK102.out 2))
      refine bodyPost_ret (results_ct rfl _ _ gb102 33 #[.int .i64 a0_0, .int .i64 (wrap64 (a0_1 - (ji8))), .int .i64 (wrap64 (a0_2 - (ji7)))] (0, 0) _ rfl (by (with_reducible repeat (first | refine blk_drewN ?_ _ | refine blk_drew ?_ | refine blk_alloc ?_ _)); refine blk_put (cs := #[.int .i64 a0_0, .int .i64 (wrap64 (a0_1 - (ji8))), .int .i64 0]) ?_ 2 _ rfl; (with_reducible repeat (first | refine blk_drewN ?_ _ | refine blk_drew ?_ | refine blk_alloc ?_ _)); refine blk_put (cs := #[.int .i64 a0_0, .int .i64 0, .int .i64 0]) ?_ 1 _ rfl; (with_reducible repeat (first | refine blk_drewN ?_ _ | refine blk_drew ?_ | refine blk_alloc ?_ _)); refine blk_put (cs := #[.int .i64 0, .int .i64 0, .int .i64 0]) ?_ 0 _ rfl; (with_reducible repeat (first | refine blk_drewN ?_ _ | refine blk_drew ?_ | refine blk_alloc ?_ _)); exact BK102.out) Try.underlying33 rfl (by kernel_rfl)) rfl ?_
      exact ⟨by first | rfl | (simp [errW_none, errW_some] <;> rfl) | (simp only [← hji7, ← hji8]; first | rfl | (simp [errW_none, errW_some] <;> rfl)) | (simp [*, errW_none, errW_some] <;> rfl), by repeat (first | (with_reducible first | exact HB.out | apply below_alloc | apply pw_below_drewN | apply below_drew1 | refine below_set ?_ GE101.out | refine below_set ?_ GE102.out) | exact HB.out)⟩
    · replace c6 := Bool.eq_false_iff.mpr c6
      subst c6
      have H1 : (some (a0_0, a0_1, a0_2, (-1))) = some (r1, r2, r3, r4) := by rw [if_neg (show ¬ (false = true) by decide)] at H; exact H
      clear H
      have H := H1
      clear H1
      simp only [Option.some.injEq, Prod.mk.injEq] at H
      obtain ⟨rfl, rfl, rfl, rfl⟩ := H
      go_enter Try.func114, Try.ntmps114
      go_wp2_with (first | ((with_reducible refine gate_dst (N := 2) rfl ?_); refine box_event ?hg (N := 2) ?hd (cs := #[.int .i64 a0_0, .int .i64 a0_1, .int .i64 a0_2]) (t := 33) ?hr ?_; (case hd => rfl); (case hg => rfl); (case hr => first | (go_simp; done) | (go_simp; rfl)); intro gb101 hg w16 hbox hb; have n0_ := Aside0.mk (below_step (by repeat (first | (with_reducible first | exact HB.out | apply below_alloc | apply pw_below_drewN | apply below_drew1) | exact HB.out)) hb); have n1_ := Aside0.mk (hbox); have n2_ := Aside0.mk ((by rw [hg]; exact (below_size (by repeat (first | (with_reducible first | exact HB.out | apply below_alloc | apply pw_below_drewN | apply below_drew1) | exact HB.out))) : w.heap.size ≤ gb101)); have n3_ := Aside0.mk ((by rw [hg]; exact (below_size (by repeat (first | (with_reducible first | exact HB.out | apply below_alloc | apply pw_below_drewN | apply below_drew1) | exact HB.out))) : w.heap.size ≤ gb101)); clear HB; have HB := n0_; have BK101 := n1_; have GW101 := n2_; have GE101 := n3_; clear n0_ n1_ n2_ n3_; clear hb hbox hg) | ((with_reducible refine gate_dst (N := 4) rfl ?_); refine box_event ?hg (N := 4) ?hd (cs := #[.int .i64 0, .int .i64 0, .int .i64 0]) (t := 33) ?hr ?_; (case hd => rfl); (case hg => rfl); (case hr => first | (go_simp; done) | (go_simp; rfl)); intro gb102 hg w17 hbox hb; have n0_ := Aside0.mk (blk_below (g := gb101) (o := .cells #[.int .i64 a0_0, .int .i64 a0_1, .int .i64 a0_2] 33 (0, 0)) (by (with_reducible repeat (first | refine blk_drewN ?_ _ | refine blk_drew ?_ | refine blk_alloc ?_ _)); exact BK101.out) hb); have n1_ := Aside0.mk (below_step (by repeat (first | (with_reducible first | exact HB.out | apply below_alloc | apply pw_below_drewN | apply below_drew1 | refine below_set ?_ GE101.out) | exact HB.out)) hb); have n2_ := Aside0.mk (hbox); have n3_ := Aside0.mk ((by rw [hg]; exact (below_size (by repeat (first | (with_reducible first | exact HB.out | apply below_alloc | apply pw_below_drewN | apply below_drew1 | refine below_set ?_ GE101.out) | exact HB.out))) : w.heap.size ≤ gb102)); have n4_ := Aside0.mk ((by rw [hg]; exact (below_size (by repeat (first | (with_reducible first | exact HB.out | apply below_alloc | apply pw_below_drewN | apply below_drew1 | refine below_set ?_ GE101.out) | exact HB.out))) : w.heap.size ≤ gb102)); have n5_ := Aside0.mk ((by rw [hg]; exact Nat.ne_of_lt (blk_lt (g := gb101) (o := .cells #[.int .i64 a0_0, .int .i64 a0_1, .int .i64 a0_2] 33 (0, 0)) (by (with_reducible repeat (first | refine blk_drewN ?_ _ | refine blk_drew ?_ | refine blk_alloc ?_ _)); exact BK101.out)) : gb101 ≠ gb102)); have n6_ := Aside0.mk ((by rw [hg]; exact Nat.ne_of_gt (blk_lt (g := gb101) (o := .cells #[.int .i64 a0_0, .int .i64 a0_1, .int .i64 a0_2] 33 (0, 0)) (by (with_reducible repeat (first | refine blk_drewN ?_ _ | refine blk_drew ?_ | refine blk_alloc ?_ _)); exact BK101.out)) : gb102 ≠ gb101)); clear BK101; clear HB; have BK101 := n0_; have HB := n1_; have BK102 := n2_; have GW102 := n3_; have GE102 := n4_; have NB101_102 := n5_; have NB102_101 := n6_; clear n0_ n1_ n2_ n3_ n4_ n5_ n6_; clear hb hbox hg; have hnb18 := NB101_102.out; have hnc18 := NB102_101.out; have hcz19_0 : w17.cell? ⟨gb101, 0, none⟩ = some (.int .i64 a0_0) := (blk_cell BK101.out 0).trans rfl; have hcz19_1 : w17.cell? ⟨gb101, 1, none⟩ = some (.int .i64 a0_1) := (blk_cell BK101.out 1).trans rfl; have hcz19_2 : w17.cell? ⟨gb101, 2, none⟩ = some (.int .i64 a0_2) := (blk_cell BK101.out 2).trans rfl; have hfz19_0 := blk_frozen BK101.out 0; have hfz19_1 := blk_frozen BK101.out 1; have hfz19_2 := blk_frozen BK101.out 2) | ((with_reducible refine gate_callee (f := 112) rfl ?_); refine goesL_ (some 9) rfl rfl Try.func112 (by kernel_rfl) rfl #[.agg #[.int .i64 a0_0, .int .i64 a0_1, .int .i64 a0_2]] rfl (by (try simp only [List.map_toArray, List.map_cons, List.map_nil]); first | done | rfl | (simp only [List.length_drop, List.length_take]; rfl)) ?_; (with_reducible refine (spec_RackOk.calls a0_0 a0_1 a0_2 true _ A3.out).mono ?_); rintro e w20 ⟨rfl, hb⟩; refine ⟨_, rfl, ?_⟩; have n0_ := Aside0.mk (blk_below (g := gb101) (o := .cells #[.int .i64 a0_0, .int .i64 a0_1, .int .i64 a0_2] 33 (0, 0)) (by (with_reducible repeat (first | refine blk_drewN ?_ _ | refine blk_drew ?_ | refine blk_alloc ?_ _)); exact BK101.out) hb); have n1_ := Aside0.mk (blk_below (g := gb102) (o := .cells #[.int .i64 0, .int .i64 0, .int .i64 0] 33 (0, 0)) (by (with_reducible repeat (first | refine blk_drewN ?_ _ | refine blk_drew ?_ | refine blk_alloc ?_ _)); exact BK102.out) hb); have n2_ := Aside0.mk (below_step (by repeat (first | (with_reducible first | exact HB.out | apply below_alloc | apply pw_below_drewN | apply below_drew1 | refine below_set ?_ GE101.out | refine below_set ?_ GE102.out) | exact HB.out)) hb); clear BK101; clear BK102; clear HB; have BK101 := n0_; have BK102 := n1_; have HB := n2_; clear n0_ n1_ n2_; (try clear hb); (try clear hb2); (try clear hk); (try clear hi)) | (go_at_call 38; (with_reducible refine (spec_l01In.calls a1 0 10000 false _ A5.out).mono ?_); rintro e w' ⟨rfl, ⟨nd, rfl⟩⟩; (try (rw [drewN_self w20]; generalize hq_ : World.drewN w20 _ = w20; have n0_ : Aside0 (w20.heap[gb101]? = some (.cells #[.int .i64 a0_0, .int .i64 a0_1, .int .i64 a0_2] 33 (0, 0))) := ⟨by rw [← hq_]; exact (by (with_reducible repeat (first | refine blk_drewN ?_ _ | refine blk_drew ?_ | refine blk_alloc ?_ _)); exact BK101.out)⟩; have n1_ : Aside0 (w20.heap[gb102]? = some (.cells #[.int .i64 0, .int .i64 0, .int .i64 0] 33 (0, 0))) := ⟨by rw [← hq_]; exact (by (with_reducible repeat (first | refine blk_drewN ?_ _ | refine blk_drew ?_ | refine blk_alloc ?_ _)); exact BK102.out)⟩; have n2_ : Aside0 (Below w.heap.size w w20) := ⟨by rw [← hq_]; exact (by repeat (first | (with_reducible first | exact HB.out | apply below_alloc | apply pw_below_drewN | apply below_drew1 | refine below_set ?_ GE101.out | refine below_set ?_ GE102.out) | exact HB.out))⟩; clear BK101 BK102 HB hq_; have BK101 := n0_; have BK102 := n1_; have HB := n2_; clear n0_ n1_ n2_)); have hcz21_0 : w20.cell? ⟨gb101, 0, none⟩ = some (.int .i64 a0_0) := (blk_cell BK101.out 0).trans rfl; have hcz21_1 : w20.cell? ⟨gb101, 1, none⟩ = some (.int .i64 a0_1) := (blk_cell BK101.out 1).trans rfl; have hcz21_2 : w20.cell? ⟨gb101, 2, none⟩ = some (.int .i64 a0_2) := (blk_cell BK101.out 2).trans rfl; have hfz21_0 := blk_frozen BK101.out 0; have hfz21_1 := blk_frozen BK101.out 1; have hfz21_2 := blk_frozen BK101.out 2; have hcz22_0 : w20.cell? ⟨gb102, 0, none⟩ = some (.int .i64 0) := (blk_cell BK102.out 0).trans rfl; have hcz22_1 : w20.cell? ⟨gb102, 1, none⟩ = some (.int .i64 0) := (blk_cell BK102.out 1).trans rfl; have hcz22_2 : w20.cell? ⟨gb102, 2, none⟩ = some (.int .i64 0) := (blk_cell BK102.out 2).trans rfl; have hfz22_0 := blk_frozen BK102.out 0; have hfz22_1 := blk_frozen BK102.out 1; have hfz22_2 := blk_frozen BK102.out 2))
      refine bodyPost_ret (results_ct rfl _ _ gb102 33 #[.int .i64 a0_0, .int .i64 a0_1, .int .i64 a0_2] (0, 0) _ rfl (by (with_reducible repeat (first | refine blk_drewN ?_ _ | refine blk_drew ?_ | refine blk_alloc ?_ _)); refine blk_put (cs := #[.int .i64 a0_0, .int .i64 a0_1, .int .i64 0]) ?_ 2 _ rfl; (with_reducible repeat (first | refine blk_drewN ?_ _ | refine blk_drew ?_ | refine blk_alloc ?_ _)); refine blk_put (cs := #[.int .i64 a0_0, .int .i64 0, .int .i64 0]) ?_ 1 _ rfl; (with_reducible repeat (first | refine blk_drewN ?_ _ | refine blk_drew ?_ | refine blk_alloc ?_ _)); refine blk_put (cs := #[.int .i64 0, .int .i64 0, .int .i64 0]) ?_ 0 _ rfl; (with_reducible repeat (first | refine blk_drewN ?_ _ | refine blk_drew ?_ | refine blk_alloc ?_ _)); exact BK102.out) Try.underlying33 rfl (by kernel_rfl)) rfl ?_
      exact ⟨by first | rfl | (simp [errW_none, errW_some] <;> rfl) | (simp [*, errW_none, errW_some] <;> rfl), by repeat (first | (with_reducible first | exact HB.out | apply below_alloc | apply pw_below_drewN | apply below_drew1 | refine below_set ?_ GE101.out | refine below_set ?_ GE102.out) | exact HB.out)⟩
  · replace c4 := Bool.eq_false_iff.mpr c4
    subst c4
    have H1 : (some (a0_0, a0_1, a0_2, (-1))) = some (r1, r2, r3, r4) := by rw [if_neg (show ¬ (false = true) by decide)] at H; exact H
    clear H
    have H := H1
    clear H1
    simp only [Option.some.injEq, Prod.mk.injEq] at H
    obtain ⟨rfl, rfl, rfl, rfl⟩ := H
    go_enter Try.func114, Try.ntmps114
    go_wp2_with (first | ((with_reducible refine gate_dst (N := 2) rfl ?_); refine box_event ?hg (N := 2) ?hd (cs := #[.int .i64 a0_0, .int .i64 a0_1, .int .i64 a0_2]) (t := 33) ?hr ?_; (case hd => rfl); (case hg => rfl); (case hr => first | (go_simp; done) | (go_simp; rfl)); intro gb101 hg w23 hbox hb; have n0_ := Aside0.mk (below_step (by repeat (first | (with_reducible first | exact HB.out | apply below_alloc | apply pw_below_drewN | apply below_drew1) | exact HB.out)) hb); have n1_ := Aside0.mk (hbox); have n2_ := Aside0.mk ((by rw [hg]; exact (below_size (by repeat (first | (with_reducible first | exact HB.out | apply below_alloc | apply pw_below_drewN | apply below_drew1) | exact HB.out))) : w.heap.size ≤ gb101)); have n3_ := Aside0.mk ((by rw [hg]; exact (below_size (by repeat (first | (with_reducible first | exact HB.out | apply below_alloc | apply pw_below_drewN | apply below_drew1) | exact HB.out))) : w.heap.size ≤ gb101)); clear HB; have HB := n0_; have BK101 := n1_; have GW101 := n2_; have GE101 := n3_; clear n0_ n1_ n2_ n3_; clear hb hbox hg) | ((with_reducible refine gate_dst (N := 4) rfl ?_); refine box_event ?hg (N := 4) ?hd (cs := #[.int .i64 0, .int .i64 0, .int .i64 0]) (t := 33) ?hr ?_; (case hd => rfl); (case hg => rfl); (case hr => first | (go_simp; done) | (go_simp; rfl)); intro gb102 hg w24 hbox hb; have n0_ := Aside0.mk (blk_below (g := gb101) (o := .cells #[.int .i64 a0_0, .int .i64 a0_1, .int .i64 a0_2] 33 (0, 0)) (by (with_reducible repeat (first | refine blk_drewN ?_ _ | refine blk_drew ?_ | refine blk_alloc ?_ _)); exact BK101.out) hb); have n1_ := Aside0.mk (below_step (by repeat (first | (with_reducible first | exact HB.out | apply below_alloc | apply pw_below_drewN | apply below_drew1 | refine below_set ?_ GE101.out) | exact HB.out)) hb); have n2_ := Aside0.mk (hbox); have n3_ := Aside0.mk ((by rw [hg]; exact (below_size (by repeat (first | (with_reducible first | exact HB.out | apply below_alloc | apply pw_below_drewN | apply below_drew1 | refine below_set ?_ GE101.out) | exact HB.out))) : w.heap.size ≤ gb102)); have n4_ := Aside0.mk ((by rw [hg]; exact (below_size (by repeat (first | (with_reducible first | exact HB.out | apply below_alloc | apply pw_below_drewN | apply below_drew1 | refine below_set ?_ GE101.out) | exact HB.out))) : w.heap.size ≤ gb102)); have n5_ := Aside0.mk ((by rw [hg]; exact Nat.ne_of_lt (blk_lt (g := gb101) (o := .cells #[.int .i64 a0_0, .int .i64 a0_1, .int .i64 a0_2] 33 (0, 0)) (by (with_reducible repeat (first | refine blk_drewN ?_ _ | refine blk_drew ?_ | refine blk_alloc ?_ _)); exact BK101.out)) : gb101 ≠ gb102)); have n6_ := Aside0.mk ((by rw [hg]; exact Nat.ne_of_gt (blk_lt (g := gb101) (o := .cells #[.int .i64 a0_0, .int .i64 a0_1, .int .i64 a0_2] 33 (0, 0)) (by (with_reducible repeat (first | refine blk_drewN ?_ _ | refine blk_drew ?_ | refine blk_alloc ?_ _)); exact BK101.out)) : gb102 ≠ gb101)); clear BK101; clear HB; have BK101 := n0_; have HB := n1_; have BK102 := n2_; have GW102 := n3_; have GE102 := n4_; have NB101_102 := n5_; have NB102_101 := n6_; clear n0_ n1_ n2_ n3_ n4_ n5_ n6_; clear hb hbox hg; have hnb25 := NB101_102.out; have hnc25 := NB102_101.out; have hcz26_0 : w24.cell? ⟨gb101, 0, none⟩ = some (.int .i64 a0_0) := (blk_cell BK101.out 0).trans rfl; have hcz26_1 : w24.cell? ⟨gb101, 1, none⟩ = some (.int .i64 a0_1) := (blk_cell BK101.out 1).trans rfl; have hcz26_2 : w24.cell? ⟨gb101, 2, none⟩ = some (.int .i64 a0_2) := (blk_cell BK101.out 2).trans rfl; have hfz26_0 := blk_frozen BK101.out 0; have hfz26_1 := blk_frozen BK101.out 1; have hfz26_2 := blk_frozen BK101.out 2) | ((with_reducible refine gate_callee (f := 112) rfl ?_); refine goesL_ (some 9) rfl rfl Try.func112 (by kernel_rfl) rfl #[.agg #[.int .i64 a0_0, .int .i64 a0_1, .int .i64 a0_2]] rfl (by (try simp only [List.map_toArray, List.map_cons, List.map_nil]); first | done | rfl | (simp only [List.length_drop, List.length_take]; rfl)) ?_; (with_reducible refine (spec_RackOk.calls a0_0 a0_1 a0_2 false _ A3.out).mono ?_); rintro e w27 ⟨rfl, hb⟩; refine ⟨_, rfl, ?_⟩; have n0_ := Aside0.mk (blk_below (g := gb101) (o := .cells #[.int .i64 a0_0, .int .i64 a0_1, .int .i64 a0_2] 33 (0, 0)) (by (with_reducible repeat (first | refine blk_drewN ?_ _ | refine blk_drew ?_ | refine blk_alloc ?_ _)); exact BK101.out) hb); have n1_ := Aside0.mk (blk_below (g := gb102) (o := .cells #[.int .i64 0, .int .i64 0, .int .i64 0] 33 (0, 0)) (by (with_reducible repeat (first | refine blk_drewN ?_ _ | refine blk_drew ?_ | refine blk_alloc ?_ _)); exact BK102.out) hb); have n2_ := Aside0.mk (below_step (by repeat (first | (with_reducible first | exact HB.out | apply below_alloc | apply pw_below_drewN | apply below_drew1 | refine below_set ?_ GE101.out | refine below_set ?_ GE102.out) | exact HB.out)) hb); clear BK101; clear BK102; clear HB; have BK101 := n0_; have BK102 := n1_; have HB := n2_; clear n0_ n1_ n2_; (try clear hb); (try clear hb2); (try clear hk); (try clear hi); have hcz28_0 : w27.cell? ⟨gb101, 0, none⟩ = some (.int .i64 a0_0) := (blk_cell BK101.out 0).trans rfl; have hcz28_1 : w27.cell? ⟨gb101, 1, none⟩ = some (.int .i64 a0_1) := (blk_cell BK101.out 1).trans rfl; have hcz28_2 : w27.cell? ⟨gb101, 2, none⟩ = some (.int .i64 a0_2) := (blk_cell BK101.out 2).trans rfl; have hfz28_0 := blk_frozen BK101.out 0; have hfz28_1 := blk_frozen BK101.out 1; have hfz28_2 := blk_frozen BK101.out 2; have hcz29_0 : w27.cell? ⟨gb102, 0, none⟩ = some (.int .i64 0) := (blk_cell BK102.out 0).trans rfl; have hcz29_1 : w27.cell? ⟨gb102, 1, none⟩ = some (.int .i64 0) := (blk_cell BK102.out 1).trans rfl; have hcz29_2 : w27.cell? ⟨gb102, 2, none⟩ = some (.int .i64 0) := (blk_cell BK102.out 2).trans rfl; have hfz29_0 := blk_frozen BK102.out 0; have hfz29_1 := blk_frozen BK102.out 1; have hfz29_2 := blk_frozen BK102.out 2))
    refine bodyPost_ret (results_ct rfl _ _ gb102 33 #[.int .i64 a0_0, .int .i64 a0_1, .int .i64 a0_2] (0, 0) _ rfl (by (with_reducible repeat (first | refine blk_drewN ?_ _ | refine blk_drew ?_ | refine blk_alloc ?_ _)); refine blk_put (cs := #[.int .i64 a0_0, .int .i64 a0_1, .int .i64 0]) ?_ 2 _ rfl; (with_reducible repeat (first | refine blk_drewN ?_ _ | refine blk_drew ?_ | refine blk_alloc ?_ _)); refine blk_put (cs := #[.int .i64 a0_0, .int .i64 0, .int .i64 0]) ?_ 1 _ rfl; (with_reducible repeat (first | refine blk_drewN ?_ _ | refine blk_drew ?_ | refine blk_alloc ?_ _)); refine blk_put (cs := #[.int .i64 0, .int .i64 0, .int .i64 0]) ?_ 0 _ rfl; (with_reducible repeat (first | refine blk_drewN ?_ _ | refine blk_drew ?_ | refine blk_alloc ?_ _)); exact BK102.out) Try.underlying33 rfl (by kernel_rfl)) rfl ?_
    exact ⟨by first | rfl | (simp [errW_none, errW_some] <;> rfl) | (simp [*, errW_none, errW_some] <;> rfl), by repeat (first | (with_reducible first | exact HB.out | apply below_alloc | apply pw_below_drewN | apply below_drew1 | refine below_set ?_ GE101.out | refine below_set ?_ GE102.out) | exact HB.out)⟩
end Go.Proofs.Ytdlmincaplbpgaa.Q
namespace Go.Proofs.Ytdlmincaplbpgaa.Q
open Go.RowKit Go.Proofs.YtdlmincaplbpgaaW.PrintWords Go.Proofs.YtdlmincaplbpgaaW.PrintLast Go.Proofs.YtdlmincaplbpgaaW.PrintMore
attribute [local go_sem] max2_int min2_int max_two min_two max_three min_three max_four min_four
set_option linter.unusedVariables false
set_option linter.unusedSimpArgs false
def spec_SellFresh.f (a0_0 : Int) (a0_1 : Int) (a0_2 : Int) (a1 : Int) : Option (Int × Int × Int × Int) := (spec_RackOk.f a0_0 a0_1 a0_2).bind fun t103 => (if t103 = true then ((spec_l01In.f a1 0 10000).bind fun t104 => (if t104 = true then (some (wrap64 (a0_0 - (mn a1 a0_0)), wrap64 (a0_1 - (mn (wrap64 (a1 - (mn a1 a0_0))) a0_1)), a0_2, wrap64 ((mn a1 a0_0) + (mn (wrap64 (a1 - (mn a1 a0_0))) a0_1)))) else (some (a0_0, a0_1, a0_2, (-1))))) else (some (a0_0, a0_1, a0_2, (-1))))
set_option maxHeartbeats 8000000 in
set_option maxRecDepth 100000 in
theorem spec_SellFresh.calls (a0_0 : Int) (a0_1 : Int) (a0_2 : Int) (a1 : Int) (r1 : Int) (r2 : Int) (r3 : Int) (r4 : Int) (w : World) (h : spec_SellFresh.f a0_0 a0_1 a0_2 a1 = some (r1, r2, r3, r4)) :
    Calls Try.prog 113 #[.agg #[.int .i64 a0_0, .int .i64 a0_1, .int .i64 a0_2], .int .i64 a1] w fun e w' => e = .returned (.tuple #[.agg #[.int .i64 r1, .int .i64 r2, .int .i64 r3], .int .i64 r4]) ∧ Below w.heap.size w w' := by
  have hu33 := Try.underlying33
  have HB := Aside0.mk (Below.refl w.heap.size w)
  have H : ((spec_RackOk.f a0_0 a0_1 a0_2).bind fun t103 => (if t103 = true then ((spec_l01In.f a1 0 10000).bind fun t104 => (if t104 = true then (some (wrap64 (a0_0 - (mn a1 a0_0)), wrap64 (a0_1 - (mn (wrap64 (a1 - (mn a1 a0_0))) a0_1)), a0_2, wrap64 ((mn a1 a0_0) + (mn (wrap64 (a1 - (mn a1 a0_0))) a0_1)))) else (some (a0_0, a0_1, a0_2, (-1))))) else (some (a0_0, a0_1, a0_2, (-1))))) = some (r1, r2, r3, r4) := h
  clear h
  replace H := Option.bind_eq_some_iff.mp H
  obtain ⟨t103, A30, H⟩ := H
  replace H : (if t103 = true then ((spec_l01In.f a1 0 10000).bind fun t104 => (if t104 = true then (some (wrap64 (a0_0 - (mn a1 a0_0)), wrap64 (a0_1 - (mn (wrap64 (a1 - (mn a1 a0_0))) a0_1)), a0_2, wrap64 ((mn a1 a0_0) + (mn (wrap64 (a1 - (mn a1 a0_0))) a0_1)))) else (some (a0_0, a0_1, a0_2, (-1))))) else (some (a0_0, a0_1, a0_2, (-1)))) = some (r1, r2, r3, r4) := H
  have A3 := Aside0.mk A30
  clear A30
  by_cases c4 : t103 = true
  · subst c4
    have H1 : ((spec_l01In.f a1 0 10000).bind fun t104 => (if t104 = true then (some (wrap64 (a0_0 - (mn a1 a0_0)), wrap64 (a0_1 - (mn (wrap64 (a1 - (mn a1 a0_0))) a0_1)), a0_2, wrap64 ((mn a1 a0_0) + (mn (wrap64 (a1 - (mn a1 a0_0))) a0_1)))) else (some (a0_0, a0_1, a0_2, (-1))))) = some (r1, r2, r3, r4) := by rw [if_pos rfl] at H; exact H
    clear H
    have H := H1
    clear H1
    replace H := Option.bind_eq_some_iff.mp H
    obtain ⟨t104, A50, H⟩ := H
    replace H : (if t104 = true then (some (wrap64 (a0_0 - (mn a1 a0_0)), wrap64 (a0_1 - (mn (wrap64 (a1 - (mn a1 a0_0))) a0_1)), a0_2, wrap64 ((mn a1 a0_0) + (mn (wrap64 (a1 - (mn a1 a0_0))) a0_1)))) else (some (a0_0, a0_1, a0_2, (-1)))) = some (r1, r2, r3, r4) := H
    have A5 := Aside0.mk A50
    clear A50
    by_cases c6 : t104 = true
    · subst c6
      have H1 : (some (wrap64 (a0_0 - (mn a1 a0_0)), wrap64 (a0_1 - (mn (wrap64 (a1 - (mn a1 a0_0))) a0_1)), a0_2, wrap64 ((mn a1 a0_0) + (mn (wrap64 (a1 - (mn a1 a0_0))) a0_1)))) = some (r1, r2, r3, r4) := by rw [if_pos rfl] at H; exact H
      clear H
      have H := H1
      clear H1
      obtain ⟨ji7, hji7⟩ : ∃ j_ : Int, (mn a1 a0_0) = j_ := ⟨_, rfl⟩
      replace H : (some (wrap64 (a0_0 - (ji7)), wrap64 (a0_1 - (mn (wrap64 (a1 - (ji7))) a0_1)), a0_2, wrap64 ((ji7) + (mn (wrap64 (a1 - (ji7))) a0_1)))) = some (r1, r2, r3, r4) := by first | (rw [hji7] at H; exact H) | (simp only [hji7] at H ⊢; exact H)
      (try rw [hji7] at A3)
      (try rw [hji7] at A5)
      have hji7_ : (if a0_0 < a1 then a0_0 else a1) = ji7 := hji7
      obtain ⟨ji8, hji8⟩ : ∃ j_ : Int, (mn (wrap64 (a1 - (ji7))) a0_1) = j_ := ⟨_, rfl⟩
      replace H : (some (wrap64 (a0_0 - (ji7)), wrap64 (a0_1 - (ji8)), a0_2, wrap64 ((ji7) + (ji8)))) = some (r1, r2, r3, r4) := by first | (rw [hji8] at H; exact H) | (simp only [hji8] at H ⊢; exact H)
      (try rw [hji8] at A3)
      (try rw [hji8] at A5)
      have hji8_ : (if a0_1 < (wrap64 (a1 - (ji7))) then a0_1 else (wrap64 (a1 - (ji7)))) = ji8 := hji8
      simp only [Option.some.injEq, Prod.mk.injEq] at H
      obtain ⟨rfl, rfl, rfl, rfl⟩ := H
      go_enter Try.func113, Try.ntmps113
      go_wp2_with (first | ((with_reducible refine gate_dst (N := 2) rfl ?_); refine box_event ?hg (N := 2) ?hd (cs := #[.int .i64 a0_0, .int .i64 a0_1, .int .i64 a0_2]) (t := 33) ?hr ?_; (case hd => rfl); (case hg => rfl); (case hr => first | (go_simp; done) | (go_simp; rfl)); intro gb101 hg w9 hbox hb; have n0_ := Aside0.mk (below_step (by repeat (first | (with_reducible first | exact HB.out | apply below_alloc | apply pw_below_drewN | apply below_drew1) | exact HB.out)) hb); have n1_ := Aside0.mk (hbox); have n2_ := Aside0.mk ((by rw [hg]; exact (below_size (by repeat (first | (with_reducible first | exact HB.out | apply below_alloc | apply pw_below_drewN | apply below_drew1) | exact HB.out))) : w.heap.size ≤ gb101)); have n3_ := Aside0.mk ((by rw [hg]; exact (below_size (by repeat (first | (with_reducible first | exact HB.out | apply below_alloc | apply pw_below_drewN | apply below_drew1) | exact HB.out))) : w.heap.size ≤ gb101)); clear HB; have HB := n0_; have BK101 := n1_; have GW101 := n2_; have GE101 := n3_; clear n0_ n1_ n2_ n3_; clear hb hbox hg) | ((with_reducible refine gate_dst (N := 4) rfl ?_); refine box_event ?hg (N := 4) ?hd (cs := #[.int .i64 0, .int .i64 0, .int .i64 0]) (t := 33) ?hr ?_; (case hd => rfl); (case hg => rfl); (case hr => first | (go_simp; done) | (go_simp; rfl)); intro gb102 hg w10 hbox hb; have n0_ := Aside0.mk (blk_below (g := gb101) (o := .cells #[.int .i64 a0_0, .int .i64 a0_1, .int .i64 a0_2] 33 (0, 0)) (by (with_reducible repeat (first | refine blk_drewN ?_ _ | refine blk_drew ?_ | refine blk_alloc ?_ _)); exact BK101.out) hb); have n1_ := Aside0.mk (below_step (by repeat (first | (with_reducible first | exact HB.out | apply below_alloc | apply pw_below_drewN | apply below_drew1 | refine below_set ?_ GE101.out) | exact HB.out)) hb); have n2_ := Aside0.mk (hbox); have n3_ := Aside0.mk ((by rw [hg]; exact (below_size (by repeat (first | (with_reducible first | exact HB.out | apply below_alloc | apply pw_below_drewN | apply below_drew1 | refine below_set ?_ GE101.out) | exact HB.out))) : w.heap.size ≤ gb102)); have n4_ := Aside0.mk ((by rw [hg]; exact (below_size (by repeat (first | (with_reducible first | exact HB.out | apply below_alloc | apply pw_below_drewN | apply below_drew1 | refine below_set ?_ GE101.out) | exact HB.out))) : w.heap.size ≤ gb102)); have n5_ := Aside0.mk ((by rw [hg]; exact Nat.ne_of_lt (blk_lt (g := gb101) (o := .cells #[.int .i64 a0_0, .int .i64 a0_1, .int .i64 a0_2] 33 (0, 0)) (by (with_reducible repeat (first | refine blk_drewN ?_ _ | refine blk_drew ?_ | refine blk_alloc ?_ _)); exact BK101.out)) : gb101 ≠ gb102)); have n6_ := Aside0.mk ((by rw [hg]; exact Nat.ne_of_gt (blk_lt (g := gb101) (o := .cells #[.int .i64 a0_0, .int .i64 a0_1, .int .i64 a0_2] 33 (0, 0)) (by (with_reducible repeat (first | refine blk_drewN ?_ _ | refine blk_drew ?_ | refine blk_alloc ?_ _)); exact BK101.out)) : gb102 ≠ gb101)); clear BK101; clear HB; have BK101 := n0_; have HB := n1_; have BK102 := n2_; have GW102 := n3_; have GE102 := n4_; have NB101_102 := n5_; have NB102_101 := n6_; clear n0_ n1_ n2_ n3_ n4_ n5_ n6_; clear hb hbox hg; have hnb11 := NB101_102.out; have hnc11 := NB102_101.out; have hcz12_0 : w10.cell? ⟨gb101, 0, none⟩ = some (.int .i64 a0_0) := (blk_cell BK101.out 0).trans rfl; have hcz12_1 : w10.cell? ⟨gb101, 1, none⟩ = some (.int .i64 a0_1) := (blk_cell BK101.out 1).trans rfl; have hcz12_2 : w10.cell? ⟨gb101, 2, none⟩ = some (.int .i64 a0_2) := (blk_cell BK101.out 2).trans rfl; have hfz12_0 := blk_frozen BK101.out 0; have hfz12_1 := blk_frozen BK101.out 1; have hfz12_2 := blk_frozen BK101.out 2) | ((with_reducible refine gate_callee (f := 112) rfl ?_); refine goesL_ (some 9) rfl rfl Try.func112 (by kernel_rfl) rfl #[.agg #[.int .i64 a0_0, .int .i64 a0_1, .int .i64 a0_2]] rfl (by (try simp only [List.map_toArray, List.map_cons, List.map_nil]); first | done | rfl | (simp only [List.length_drop, List.length_take]; rfl)) ?_; (with_reducible refine (spec_RackOk.calls a0_0 a0_1 a0_2 true _ A3.out).mono ?_); rintro e w13 ⟨rfl, hb⟩; refine ⟨_, rfl, ?_⟩; have n0_ := Aside0.mk (blk_below (g := gb101) (o := .cells #[.int .i64 a0_0, .int .i64 a0_1, .int .i64 a0_2] 33 (0, 0)) (by (with_reducible repeat (first | refine blk_drewN ?_ _ | refine blk_drew ?_ | refine blk_alloc ?_ _)); exact BK101.out) hb); have n1_ := Aside0.mk (blk_below (g := gb102) (o := .cells #[.int .i64 0, .int .i64 0, .int .i64 0] 33 (0, 0)) (by (with_reducible repeat (first | refine blk_drewN ?_ _ | refine blk_drew ?_ | refine blk_alloc ?_ _)); exact BK102.out) hb); have n2_ := Aside0.mk (below_step (by repeat (first | (with_reducible first | exact HB.out | apply below_alloc | apply pw_below_drewN | apply below_drew1 | refine below_set ?_ GE101.out | refine below_set ?_ GE102.out) | exact HB.out)) hb); clear BK101; clear BK102; clear HB; have BK101 := n0_; have BK102 := n1_; have HB := n2_; clear n0_ n1_ n2_; (try clear hb); (try clear hb2); (try clear hk); (try clear hi)) | (go_at_call 38; (with_reducible refine (spec_l01In.calls a1 0 10000 true _ A5.out).mono ?_); rintro e w' ⟨rfl, ⟨nd, rfl⟩⟩; (try (rw [drewN_self w13]; generalize hq_ : World.drewN w13 _ = w13; have n0_ : Aside0 (w13.heap[gb101]? = some (.cells #[.int .i64 a0_0, .int .i64 a0_1, .int .i64 a0_2] 33 (0, 0))) := ⟨by rw [← hq_]; exact (by (with_reducible repeat (first | refine blk_drewN ?_ _ | refine blk_drew ?_ | refine blk_alloc ?_ _)); exact BK101.out)⟩; have n1_ : Aside0 (w13.heap[gb102]? = some (.cells #[.int .i64 0, .int .i64 0, .int .i64 0] 33 (0, 0))) := ⟨by rw [← hq_]; exact (by (with_reducible repeat (first | refine blk_drewN ?_ _ | refine blk_drew ?_ | refine blk_alloc ?_ _)); exact BK102.out)⟩; have n2_ : Aside0 (Below w.heap.size w w13) := ⟨by rw [← hq_]; exact (by repeat (first | (with_reducible first | exact HB.out | apply below_alloc | apply pw_below_drewN | apply below_drew1 | refine below_set ?_ GE101.out | refine below_set ?_ GE102.out) | exact HB.out))⟩; clear BK101 BK102 HB hq_; have BK101 := n0_; have BK102 := n1_; have HB := n2_; clear n0_ n1_ n2_)); have hcz14_0 : w13.cell? ⟨gb101, 0, none⟩ = some (.int .i64 a0_0) := (blk_cell BK101.out 0).trans rfl; have hcz14_1 : w13.cell? ⟨gb101, 1, none⟩ = some (.int .i64 a0_1) := (blk_cell BK101.out 1).trans rfl; have hcz14_2 : w13.cell? ⟨gb101, 2, none⟩ = some (.int .i64 a0_2) := (blk_cell BK101.out 2).trans rfl; have hfz14_0 := blk_frozen BK101.out 0; have hfz14_1 := blk_frozen BK101.out 1; have hfz14_2 := blk_frozen BK101.out 2; have hcz15_0 : w13.cell? ⟨gb102, 0, none⟩ = some (.int .i64 0) := (blk_cell BK102.out 0).trans rfl; have hcz15_1 : w13.cell? ⟨gb102, 1, none⟩ = some (.int .i64 0) := (blk_cell BK102.out 1).trans rfl; have hcz15_2 : w13.cell? ⟨gb102, 2, none⟩ = some (.int .i64 0) := (blk_cell BK102.out 2).trans rfl; have hfz15_0 := blk_frozen BK102.out 0; have hfz15_1 := blk_frozen BK102.out 1; have hfz15_2 := blk_frozen BK102.out 2))
      refine bodyPost_ret (results_ct rfl _ _ gb102 33 #[.int .i64 (wrap64 (a0_0 - (ji7))), .int .i64 (wrap64 (a0_1 - (ji8))), .int .i64 a0_2] (0, 0) _ rfl (by (with_reducible repeat (first | refine blk_drewN ?_ _ | refine blk_drew ?_ | refine blk_alloc ?_ _)); refine blk_put (cs := #[.int .i64 (wrap64 (a0_0 - (ji7))), .int .i64 (wrap64 (a0_1 - (ji8))), .int .i64 0]) ?_ 2 _ rfl; (with_reducible repeat (first | refine blk_drewN ?_ _ | refine blk_drew ?_ | refine blk_alloc ?_ _)); refine blk_put (cs := #[.int .i64 (wrap64 (a0_0 - (ji7))), .int .i64 0, .int .i64 0]) ?_ 1 _ rfl; (with_reducible repeat (first | refine blk_drewN ?_ _ | refine blk_drew ?_ | refine blk_alloc ?_ _)); refine blk_put (cs := #[.int .i64 0, .int .i64 0, .int .i64 0]) ?_ 0 _ rfl; (with_reducible repeat (first | refine blk_drewN ?_ _ | refine blk_drew ?_ | refine blk_alloc ?_ _)); exact BK102.out) Try.underlying33 rfl (by kernel_rfl)) rfl ?_
      exact ⟨by first | rfl | (simp [errW_none, errW_some] <;> rfl) | (simp only [← hji7, ← hji8]; first | rfl | (simp [errW_none, errW_some] <;> rfl)) | (simp [*, errW_none, errW_some] <;> rfl), by repeat (first | (with_reducible first | exact HB.out | apply below_alloc | apply pw_below_drewN | apply below_drew1 | refine below_set ?_ GE101.out | refine below_set ?_ GE102.out) | exact HB.out)⟩
    · replace c6 := Bool.eq_false_iff.mpr c6
      subst c6
      have H1 : (some (a0_0, a0_1, a0_2, (-1))) = some (r1, r2, r3, r4) := by rw [if_neg (show ¬ (false = true) by decide)] at H; exact H
      clear H
      have H := H1
      clear H1
      simp only [Option.some.injEq, Prod.mk.injEq] at H
      obtain ⟨rfl, rfl, rfl, rfl⟩ := H
      go_enter Try.func113, Try.ntmps113
      go_wp2_with (first | ((with_reducible refine gate_dst (N := 2) rfl ?_); refine box_event ?hg (N := 2) ?hd (cs := #[.int .i64 a0_0, .int .i64 a0_1, .int .i64 a0_2]) (t := 33) ?hr ?_; (case hd => rfl); (case hg => rfl); (case hr => first | (go_simp; done) | (go_simp; rfl)); intro gb101 hg w16 hbox hb; have n0_ := Aside0.mk (below_step (by repeat (first | (with_reducible first | exact HB.out | apply below_alloc | apply pw_below_drewN | apply below_drew1) | exact HB.out)) hb); have n1_ := Aside0.mk (hbox); have n2_ := Aside0.mk ((by rw [hg]; exact (below_size (by repeat (first | (with_reducible first | exact HB.out | apply below_alloc | apply pw_below_drewN | apply below_drew1) | exact HB.out))) : w.heap.size ≤ gb101)); have n3_ := Aside0.mk ((by rw [hg]; exact (below_size (by repeat (first | (with_reducible first | exact HB.out | apply below_alloc | apply pw_below_drewN | apply below_drew1) | exact HB.out))) : w.heap.size ≤ gb101)); clear HB; have HB := n0_; have BK101 := n1_; have GW101 := n2_; have GE101 := n3_; clear n0_ n1_ n2_ n3_; clear hb hbox hg) | ((with_reducible refine gate_dst (N := 4) rfl ?_); refine box_event ?hg (N := 4) ?hd (cs := #[.int .i64 0, .int .i64 0, .int .i64 0]) (t := 33) ?hr ?_; (case hd => rfl); (case hg => rfl); (case hr => first | (go_simp; done) | (go_simp; rfl)); intro gb102 hg w17 hbox hb; have n0_ := Aside0.mk (blk_below (g := gb101) (o := .cells #[.int .i64 a0_0, .int .i64 a0_1, .int .i64 a0_2] 33 (0, 0)) (by (with_reducible repeat (first | refine blk_drewN ?_ _ | refine blk_drew ?_ | refine blk_alloc ?_ _)); exact BK101.out) hb); have n1_ := Aside0.mk (below_step (by repeat (first | (with_reducible first | exact HB.out | apply below_alloc | apply pw_below_drewN | apply below_drew1 | refine below_set ?_ GE101.out) | exact HB.out)) hb); have n2_ := Aside0.mk (hbox); have n3_ := Aside0.mk ((by rw [hg]; exact (below_size (by repeat (first | (with_reducible first | exact HB.out | apply below_alloc | apply pw_below_drewN | apply below_drew1 | refine below_set ?_ GE101.out) | exact HB.out))) : w.heap.size ≤ gb102)); have n4_ := Aside0.mk ((by rw [hg]; exact (below_size (by repeat (first | (with_reducible first | exact HB.out | apply below_alloc | apply pw_below_drewN | apply below_drew1 | refine below_set ?_ GE101.out) | exact HB.out))) : w.heap.size ≤ gb102)); have n5_ := Aside0.mk ((by rw [hg]; exact Nat.ne_of_lt (blk_lt (g := gb101) (o := .cells #[.int .i64 a0_0, .int .i64 a0_1, .int .i64 a0_2] 33 (0, 0)) (by (with_reducible repeat (first | refine blk_drewN ?_ _ | refine blk_drew ?_ | refine blk_alloc ?_ _)); exact BK101.out)) : gb101 ≠ gb102)); have n6_ := Aside0.mk ((by rw [hg]; exact Nat.ne_of_gt (blk_lt (g := gb101) (o := .cells #[.int .i64 a0_0, .int .i64 a0_1, .int .i64 a0_2] 33 (0, 0)) (by (with_reducible repeat (first | refine blk_drewN ?_ _ | refine blk_drew ?_ | refine blk_alloc ?_ _)); exact BK101.out)) : gb102 ≠ gb101)); clear BK101; clear HB; have BK101 := n0_; have HB := n1_; have BK102 := n2_; have GW102 := n3_; have GE102 := n4_; have NB101_102 := n5_; have NB102_101 := n6_; clear n0_ n1_ n2_ n3_ n4_ n5_ n6_; clear hb hbox hg; have hnb18 := NB101_102.out; have hnc18 := NB102_101.out; have hcz19_0 : w17.cell? ⟨gb101, 0, none⟩ = some (.int .i64 a0_0) := (blk_cell BK101.out 0).trans rfl; have hcz19_1 : w17.cell? ⟨gb101, 1, none⟩ = some (.int .i64 a0_1) := (blk_cell BK101.out 1).trans rfl; have hcz19_2 : w17.cell? ⟨gb101, 2, none⟩ = some (.int .i64 a0_2) := (blk_cell BK101.out 2).trans rfl; have hfz19_0 := blk_frozen BK101.out 0; have hfz19_1 := blk_frozen BK101.out 1; have hfz19_2 := blk_frozen BK101.out 2) | ((with_reducible refine gate_callee (f := 112) rfl ?_); refine goesL_ (some 9) rfl rfl Try.func112 (by kernel_rfl) rfl #[.agg #[.int .i64 a0_0, .int .i64 a0_1, .int .i64 a0_2]] rfl (by (try simp only [List.map_toArray, List.map_cons, List.map_nil]); first | done | rfl | (simp only [List.length_drop, List.length_take]; rfl)) ?_; (with_reducible refine (spec_RackOk.calls a0_0 a0_1 a0_2 true _ A3.out).mono ?_); rintro e w20 ⟨rfl, hb⟩; refine ⟨_, rfl, ?_⟩; have n0_ := Aside0.mk (blk_below (g := gb101) (o := .cells #[.int .i64 a0_0, .int .i64 a0_1, .int .i64 a0_2] 33 (0, 0)) (by (with_reducible repeat (first | refine blk_drewN ?_ _ | refine blk_drew ?_ | refine blk_alloc ?_ _)); exact BK101.out) hb); have n1_ := Aside0.mk (blk_below (g := gb102) (o := .cells #[.int .i64 0, .int .i64 0, .int .i64 0] 33 (0, 0)) (by (with_reducible repeat (first | refine blk_drewN ?_ _ | refine blk_drew ?_ | refine blk_alloc ?_ _)); exact BK102.out) hb); have n2_ := Aside0.mk (below_step (by repeat (first | (with_reducible first | exact HB.out | apply below_alloc | apply pw_below_drewN | apply below_drew1 | refine below_set ?_ GE101.out | refine below_set ?_ GE102.out) | exact HB.out)) hb); clear BK101; clear BK102; clear HB; have BK101 := n0_; have BK102 := n1_; have HB := n2_; clear n0_ n1_ n2_; (try clear hb); (try clear hb2); (try clear hk); (try clear hi)) | (go_at_call 38; (with_reducible refine (spec_l01In.calls a1 0 10000 false _ A5.out).mono ?_); rintro e w' ⟨rfl, ⟨nd, rfl⟩⟩; (try (rw [drewN_self w20]; generalize hq_ : World.drewN w20 _ = w20; have n0_ : Aside0 (w20.heap[gb101]? = some (.cells #[.int .i64 a0_0, .int .i64 a0_1, .int .i64 a0_2] 33 (0, 0))) := ⟨by rw [← hq_]; exact (by (with_reducible repeat (first | refine blk_drewN ?_ _ | refine blk_drew ?_ | refine blk_alloc ?_ _)); exact BK101.out)⟩; have n1_ : Aside0 (w20.heap[gb102]? = some (.cells #[.int .i64 0, .int .i64 0, .int .i64 0] 33 (0, 0))) := ⟨by rw [← hq_]; exact (by (with_reducible repeat (first | refine blk_drewN ?_ _ | refine blk_drew ?_ | refine blk_alloc ?_ _)); exact BK102.out)⟩; have n2_ : Aside0 (Below w.heap.size w w20) := ⟨by rw [← hq_]; exact (by repeat (first | (with_reducible first | exact HB.out | apply below_alloc | apply pw_below_drewN | apply below_drew1 | refine below_set ?_ GE101.out | refine below_set ?_ GE102.out) | exact HB.out))⟩; clear BK101 BK102 HB hq_; have BK101 := n0_; have BK102 := n1_; have HB := n2_; clear n0_ n1_ n2_)); have hcz21_0 : w20.cell? ⟨gb101, 0, none⟩ = some (.int .i64 a0_0) := (blk_cell BK101.out 0).trans rfl; have hcz21_1 : w20.cell? ⟨gb101, 1, none⟩ = some (.int .i64 a0_1) := (blk_cell BK101.out 1).trans rfl; have hcz21_2 : w20.cell? ⟨gb101, 2, none⟩ = some (.int .i64 a0_2) := (blk_cell BK101.out 2).trans rfl; have hfz21_0 := blk_frozen BK101.out 0; have hfz21_1 := blk_frozen BK101.out 1; have hfz21_2 := blk_frozen BK101.out 2; have hcz22_0 : w20.cell? ⟨gb102, 0, none⟩ = some (.int .i64 0) := (blk_cell BK102.out 0).trans rfl; have hcz22_1 : w20.cell? ⟨gb102, 1, none⟩ = some (.int .i64 0) := (blk_cell BK102.out 1).trans rfl; have hcz22_2 : w20.cell? ⟨gb102, 2, none⟩ = some (.int .i64 0) := (blk_cell BK102.out 2).trans rfl; have hfz22_0 := blk_frozen BK102.out 0; have hfz22_1 := blk_frozen BK102.out 1; have hfz22_2 := blk_frozen BK102.out 2))
      refine bodyPost_ret (results_ct rfl _ _ gb102 33 #[.int .i64 a0_0, .int .i64 a0_1, .int .i64 a0_2] (0, 0) _ rfl (by (with_reducible repeat (first | refine blk_drewN ?_ _ | refine blk_drew ?_ | refine blk_alloc ?_ _)); refine blk_put (cs := #[.int .i64 a0_0, .int .i64 a0_1, .int .i64 0]) ?_ 2 _ rfl; (with_reducible repeat (first | refine blk_drewN ?_ _ | refine blk_drew ?_ | refine blk_alloc ?_ _)); refine blk_put (cs := #[.int .i64 a0_0, .int .i64 0, .int .i64 0]) ?_ 1 _ rfl; (with_reducible repeat (first | refine blk_drewN ?_ _ | refine blk_drew ?_ | refine blk_alloc ?_ _)); refine blk_put (cs := #[.int .i64 0, .int .i64 0, .int .i64 0]) ?_ 0 _ rfl; (with_reducible repeat (first | refine blk_drewN ?_ _ | refine blk_drew ?_ | refine blk_alloc ?_ _)); exact BK102.out) Try.underlying33 rfl (by kernel_rfl)) rfl ?_
      exact ⟨by first | rfl | (simp [errW_none, errW_some] <;> rfl) | (simp [*, errW_none, errW_some] <;> rfl), by repeat (first | (with_reducible first | exact HB.out | apply below_alloc | apply pw_below_drewN | apply below_drew1 | refine below_set ?_ GE101.out | refine below_set ?_ GE102.out) | exact HB.out)⟩
  · replace c4 := Bool.eq_false_iff.mpr c4
    subst c4
    have H1 : (some (a0_0, a0_1, a0_2, (-1))) = some (r1, r2, r3, r4) := by rw [if_neg (show ¬ (false = true) by decide)] at H; exact H
    clear H
    have H := H1
    clear H1
    simp only [Option.some.injEq, Prod.mk.injEq] at H
    obtain ⟨rfl, rfl, rfl, rfl⟩ := H
    go_enter Try.func113, Try.ntmps113
    go_wp2_with (first | ((with_reducible refine gate_dst (N := 2) rfl ?_); refine box_event ?hg (N := 2) ?hd (cs := #[.int .i64 a0_0, .int .i64 a0_1, .int .i64 a0_2]) (t := 33) ?hr ?_; (case hd => rfl); (case hg => rfl); (case hr => first | (go_simp; done) | (go_simp; rfl)); intro gb101 hg w23 hbox hb; have n0_ := Aside0.mk (below_step (by repeat (first | (with_reducible first | exact HB.out | apply below_alloc | apply pw_below_drewN | apply below_drew1) | exact HB.out)) hb); have n1_ := Aside0.mk (hbox); have n2_ := Aside0.mk ((by rw [hg]; exact (below_size (by repeat (first | (with_reducible first | exact HB.out | apply below_alloc | apply pw_below_drewN | apply below_drew1) | exact HB.out))) : w.heap.size ≤ gb101)); have n3_ := Aside0.mk ((by rw [hg]; exact (below_size (by repeat (first | (with_reducible first | exact HB.out | apply below_alloc | apply pw_below_drewN | apply below_drew1) | exact HB.out))) : w.heap.size ≤ gb101)); clear HB; have HB := n0_; have BK101 := n1_; have GW101 := n2_; have GE101 := n3_; clear n0_ n1_ n2_ n3_; clear hb hbox hg) | ((with_reducible refine gate_dst (N := 4) rfl ?_); refine box_event ?hg (N := 4) ?hd (cs := #[.int .i64 0, .int .i64 0, .int .i64 0]) (t := 33) ?hr ?_; (case hd => rfl); (case hg => rfl); (case hr => first | (go_simp; done) | (go_simp; rfl)); intro gb102 hg w24 hbox hb; have n0_ := Aside0.mk (blk_below (g := gb101) (o := .cells #[.int .i64 a0_0, .int .i64 a0_1, .int .i64 a0_2] 33 (0, 0)) (by (with_reducible repeat (first | refine blk_drewN ?_ _ | refine blk_drew ?_ | refine blk_alloc ?_ _)); exact BK101.out) hb); have n1_ := Aside0.mk (below_step (by repeat (first | (with_reducible first | exact HB.out | apply below_alloc | apply pw_below_drewN | apply below_drew1 | refine below_set ?_ GE101.out) | exact HB.out)) hb); have n2_ := Aside0.mk (hbox); have n3_ := Aside0.mk ((by rw [hg]; exact (below_size (by repeat (first | (with_reducible first | exact HB.out | apply below_alloc | apply pw_below_drewN | apply below_drew1 | refine below_set ?_ GE101.out) | exact HB.out))) : w.heap.size ≤ gb102)); have n4_ := Aside0.mk ((by rw [hg]; exact (below_size (by repeat (first | (with_reducible first | exact HB.out | apply below_alloc | apply pw_below_drewN | apply below_drew1 | refine below_set ?_ GE101.out) | exact HB.out))) : w.heap.size ≤ gb102)); have n5_ := Aside0.mk ((by rw [hg]; exact Nat.ne_of_lt (blk_lt (g := gb101) (o := .cells #[.int .i64 a0_0, .int .i64 a0_1, .int .i64 a0_2] 33 (0, 0)) (by (with_reducible repeat (first | refine blk_drewN ?_ _ | refine blk_drew ?_ | refine blk_alloc ?_ _)); exact BK101.out)) : gb101 ≠ gb102)); have n6_ := Aside0.mk ((by rw [hg]; exact Nat.ne_of_gt (blk_lt (g := gb101) (o := .cells #[.int .i64 a0_0, .int .i64 a0_1, .int .i64 a0_2] 33 (0, 0)) (by (with_reducible repeat (first | refine blk_drewN ?_ _ | refine blk_drew ?_ | refine blk_alloc ?_ _)); exact BK101.out)) : gb102 ≠ gb101)); clear BK101; clear HB; have BK101 := n0_; have HB := n1_; have BK102 := n2_; have GW102 := n3_; have GE102 := n4_; have NB101_102 := n5_; have NB102_101 := n6_; clear n0_ n1_ n2_ n3_ n4_ n5_ n6_; clear hb hbox hg; have hnb25 := NB101_102.out; have hnc25 := NB102_101.out; have hcz26_0 : w24.cell? ⟨gb101, 0, none⟩ = some (.int .i64 a0_0) := (blk_cell BK101.out 0).trans rfl; have hcz26_1 : w24.cell? ⟨gb101, 1, none⟩ = some (.int .i64 a0_1) := (blk_cell BK101.out 1).trans rfl; have hcz26_2 : w24.cell? ⟨gb101, 2, none⟩ = some (.int .i64 a0_2) := (blk_cell BK101.out 2).trans rfl; have hfz26_0 := blk_frozen BK101.out 0; have hfz26_1 := blk_frozen BK101.out 1; have hfz26_2 := blk_frozen BK101.out 2) | ((with_reducible refine gate_callee (f := 112) rfl ?_); refine goesL_ (some 9) rfl rfl Try.func112 (by kernel_rfl) rfl #[.agg #[.int .i64 a0_0, .int .i64 a0_1, .int .i64 a0_2]] rfl (by (try simp only [List.map_toArray, List.map_cons, List.map_nil]); first | done | rfl | (simp only [List.length_drop, List.length_take]; rfl)) ?_; (with_reducible refine (spec_RackOk.calls a0_0 a0_1 a0_2 false _ A3.out).mono ?_); rintro e w27 ⟨rfl, hb⟩; refine ⟨_, rfl, ?_⟩; have n0_ := Aside0.mk (blk_below (g := gb101) (o := .cells #[.int .i64 a0_0, .int .i64 a0_1, .int .i64 a0_2] 33 (0, 0)) (by (with_reducible repeat (first | refine blk_drewN ?_ _ | refine blk_drew ?_ | refine blk_alloc ?_ _)); exact BK101.out) hb); have n1_ := Aside0.mk (blk_below (g := gb102) (o := .cells #[.int .i64 0, .int .i64 0, .int .i64 0] 33 (0, 0)) (by (with_reducible repeat (first | refine blk_drewN ?_ _ | refine blk_drew ?_ | refine blk_alloc ?_ _)); exact BK102.out) hb); have n2_ := Aside0.mk (below_step (by repeat (first | (with_reducible first | exact HB.out | apply below_alloc | apply pw_below_drewN | apply below_drew1 | refine below_set ?_ GE101.out | refine below_set ?_ GE102.out) | exact HB.out)) hb); clear BK101; clear BK102; clear HB; have BK101 := n0_; have BK102 := n1_; have HB := n2_; clear n0_ n1_ n2_; (try clear hb); (try clear hb2); (try clear hk); (try clear hi); have hcz28_0 : w27.cell? ⟨gb101, 0, none⟩ = some (.int .i64 a0_0) := (blk_cell BK101.out 0).trans rfl; have hcz28_1 : w27.cell? ⟨gb101, 1, none⟩ = some (.int .i64 a0_1) := (blk_cell BK101.out 1).trans rfl; have hcz28_2 : w27.cell? ⟨gb101, 2, none⟩ = some (.int .i64 a0_2) := (blk_cell BK101.out 2).trans rfl; have hfz28_0 := blk_frozen BK101.out 0; have hfz28_1 := blk_frozen BK101.out 1; have hfz28_2 := blk_frozen BK101.out 2; have hcz29_0 : w27.cell? ⟨gb102, 0, none⟩ = some (.int .i64 0) := (blk_cell BK102.out 0).trans rfl; have hcz29_1 : w27.cell? ⟨gb102, 1, none⟩ = some (.int .i64 0) := (blk_cell BK102.out 1).trans rfl; have hcz29_2 : w27.cell? ⟨gb102, 2, none⟩ = some (.int .i64 0) := (blk_cell BK102.out 2).trans rfl; have hfz29_0 := blk_frozen BK102.out 0; have hfz29_1 := blk_frozen BK102.out 1; have hfz29_2 := blk_frozen BK102.out 2))
    refine bodyPost_ret (results_ct rfl _ _ gb102 33 #[.int .i64 a0_0, .int .i64 a0_1, .int .i64 a0_2] (0, 0) _ rfl (by (with_reducible repeat (first | refine blk_drewN ?_ _ | refine blk_drew ?_ | refine blk_alloc ?_ _)); refine blk_put (cs := #[.int .i64 a0_0, .int .i64 a0_1, .int .i64 0]) ?_ 2 _ rfl; (with_reducible repeat (first | refine blk_drewN ?_ _ | refine blk_drew ?_ | refine blk_alloc ?_ _)); refine blk_put (cs := #[.int .i64 a0_0, .int .i64 0, .int .i64 0]) ?_ 1 _ rfl; (with_reducible repeat (first | refine blk_drewN ?_ _ | refine blk_drew ?_ | refine blk_alloc ?_ _)); refine blk_put (cs := #[.int .i64 0, .int .i64 0, .int .i64 0]) ?_ 0 _ rfl; (with_reducible repeat (first | refine blk_drewN ?_ _ | refine blk_drew ?_ | refine blk_alloc ?_ _)); exact BK102.out) Try.underlying33 rfl (by kernel_rfl)) rfl ?_
    exact ⟨by first | rfl | (simp [errW_none, errW_some] <;> rfl) | (simp [*, errW_none, errW_some] <;> rfl), by repeat (first | (with_reducible first | exact HB.out | apply below_alloc | apply pw_below_drewN | apply below_drew1 | refine below_set ?_ GE101.out | refine below_set ?_ GE102.out) | exact HB.out)⟩
end Go.Proofs.Ytdlmincaplbpgaa.Q
