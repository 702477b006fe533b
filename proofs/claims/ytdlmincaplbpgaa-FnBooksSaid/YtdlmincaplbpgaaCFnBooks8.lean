import Derived.Test.YtdlmincaplbpgaaCFnBooks4
import Derived.Test.YtdlmincaplbpgaaCFnBooks5
import Derived.Test.YtdlmincaplbpgaaCFnBooks7
namespace Go.Proofs.Ytdlmincaplbpgaa.Q
open Go.RowKit Go.Proofs.YtdlmincaplbpgaaW.PrintWords Go.Proofs.YtdlmincaplbpgaaW.PrintLast Go.Proofs.YtdlmincaplbpgaaW.PrintMore
attribute [local go_sem] max2_int min2_int max_two min_two max_three min_three max_four min_four
set_option linter.unusedVariables false
set_option linter.unusedSimpArgs false
attribute [local go_sem high] eqA33
def laws_FnBooks.l0 : Nat → (List (S54) × Int × Int × Int × Int × Int × Int) → (List Int) → (List (S54) × Int × Int × Int × Int × Int × Int × Bool) → (List (S54) × Int × Int × Int × Int × Int × Int × Bool) → (List (S54) × Int × Int × Int × Int × Int × Int × Bool) → (List (S54) × Int × Int × Int × Int × Int × Int × Bool) → (Int × Int × Int × Int × Int × Int × Bool) → (Int) → (Int) → Option (Bool)
  | 0, _, _, _, _, _, _, _, _, _ => none
  | k + 1, t2, l0, t16, t10, t20, t24, t28, x31, x32 => (if (decide ((x32 : Int) < ((t2.1.length : Int)))) = true then (if 0 ≤ x32 then (if x32 < (t2.1.length : Int) then ((laws_btoi.f ((((rd_T54 t2.1 x32).f0) : Int) == 4)).bind fun t53 => laws_FnBooks.l0 k t2 l0 t16 t10 t20 t24 t28 (wrap64 (x31 + t53)) (wrap64 (x32 + 1))) else none) else none) else (if (((((((((((((((((((t16.2.2.2.2.2.2.2 == t10.2.2.2.2.2.2.2) && (((!t16.2.2.2.2.2.2.2) || ((((((t16.2.1 : Int) == 0) && ((t16.2.2.1 : Int) == 0))) && ((t16.2.2.2.2.2.1 : Int) == (wrap64 ((wrap64 (t2.2.2.2.2.2.1 + t2.2.1)) + t2.2.2.1))))))))) && (!t20.2.2.2.2.2.2.2))) && (t24.2.2.2.2.2.2.2 == t10.2.2.2.2.2.2.2))) && (((!t24.2.2.2.2.2.2.2) || ((((t24.2.2.2.2.2.2.1 : Int) == (wrap64 (t2.2.2.2.2.2.2 + t2.2.2.2.1))) && ((t24.2.2.1 : Int) == t2.2.1))))))) && t28.2.2.2.2.2.2)) && ((t28.2.2.1 : Int) == 0))) && ((t28.2.2.2.1 : Int) == 0))) && ((t28.2.2.2.2.1 : Int) == t2.2.2.2.1))) && ((t28.2.2.2.2.2.1 : Int) == 0))) = true then ((impl_BookOk.f t2.1 t2.2.1 t2.2.2.1 t2.2.2.2.1 (wrap64 (t2.2.2.2.2.1 + 1)) t2.2.2.2.2.2.1 t2.2.2.2.2.2.2).bind fun t49 => (if t49 = true then some false else ((impl_DaysIn.f k t2.1 t2.2.1 t2.2.2.1 t2.2.2.2.1 t2.2.2.2.2.1 t2.2.2.2.2.2.1 t2.2.2.2.2.2.2).bind fun t50 => some ((t50 : Int) == x31)))) else some false))
def laws_FnBooks.l1 : Nat → (List (S54) × Int × Int × Int × Int × Int × Int) → (List (S54) × Int × Int × Int × Int × Int × Int × Bool) → (List (S54) × Int × Int × Int × Int × Int × Int × Bool) → (List (S54) × Int × Int × Int × Int × Int × Int × Bool) → (List (S54) × Int × Int × Int × Int × Int × Int × Bool) → (Int × Int × Int × Int × Int × Int × Bool) → (Int) → (Int) → Option (Bool)
  | 0, _, _, _, _, _, _, _, _ => none
  | k + 1, t2, t64, t10, t68, t72, t76, x79, x80 => (if (decide ((x80 : Int) < ((t2.1.length : Int)))) = true then (if 0 ≤ x80 then (if x80 < (t2.1.length : Int) then ((laws_btoi.f ((((rd_T54 t2.1 x80).f0) : Int) == 4)).bind fun t101 => laws_FnBooks.l1 k t2 t64 t10 t68 t72 t76 (wrap64 (x79 + t101)) (wrap64 (x80 + 1))) else none) else none) else (if (((((((((((((((((((t64.2.2.2.2.2.2.2 == t10.2.2.2.2.2.2.2) && (((!t64.2.2.2.2.2.2.2) || ((((((t64.2.1 : Int) == 0) && ((t64.2.2.1 : Int) == 0))) && ((t64.2.2.2.2.2.1 : Int) == (wrap64 ((wrap64 (t2.2.2.2.2.2.1 + t2.2.1)) + t2.2.2.1))))))))) && (!t68.2.2.2.2.2.2.2))) && (t72.2.2.2.2.2.2.2 == t10.2.2.2.2.2.2.2))) && (((!t72.2.2.2.2.2.2.2) || ((((t72.2.2.2.2.2.2.1 : Int) == (wrap64 (t2.2.2.2.2.2.2 + t2.2.2.2.1))) && ((t72.2.2.1 : Int) == t2.2.1))))))) && t76.2.2.2.2.2.2)) && ((t76.2.2.1 : Int) == 0))) && ((t76.2.2.2.1 : Int) == 0))) && ((t76.2.2.2.2.1 : Int) == t2.2.2.2.1))) && ((t76.2.2.2.2.2.1 : Int) == 0))) = true then ((impl_BookOk.f t2.1 t2.2.1 t2.2.2.1 t2.2.2.2.1 (wrap64 (t2.2.2.2.2.1 + 1)) t2.2.2.2.2.2.1 t2.2.2.2.2.2.2).bind fun t97 => (if t97 = true then some false else ((impl_DaysIn.f k t2.1 t2.2.1 t2.2.2.1 t2.2.2.2.1 t2.2.2.2.2.1 t2.2.2.2.2.2.1 t2.2.2.2.2.2.2).bind fun t98 => some ((t98 : Int) == x79)))) else some false))
def laws_FnBooks.f (k : Nat) (l0 : List Int) : Option (Bool) := ((laws_big.f l0).bind fun t1 => (if t1 = true then some true else ((spec_DrawBook.f k l0).bind fun t2 => ((impl_BookOk.f t2.1 t2.2.1 t2.2.2.1 t2.2.2.2.1 t2.2.2.2.2.1 t2.2.2.2.2.2.1 t2.2.2.2.2.2.2).bind fun t7 => (if (((!t7) || ((t2.2.2.2.2.1 : Int) != (wrap64 ((wrap64 ((wrap64 ((wrap64 (t2.2.2.2.2.2.1 + t2.2.2.2.2.2.2)) + t2.2.1)) + t2.2.2.1)) + t2.2.2.2.1))))) = true then some false else ((laws_at.f l0 0).bind fun t9 => ((impl_Enter.f t2.1 t2.2.1 t2.2.2.1 t2.2.2.2.1 t2.2.2.2.2.1 t2.2.2.2.2.2.1 t2.2.2.2.2.2.2 1 (Int.tmod t9 50)).bind fun t10 => (if (!(t10.2.2.2.2.2.2.2 == (decide ((((t2.1.length : Int)) : Int) < 40)))) = true then some false else (if t10.2.2.2.2.2.2.2 = true then ((impl_Strike.f k t10.1 t10.2.1 t10.2.2.1 t10.2.2.2.1 t10.2.2.2.2.1 t10.2.2.2.2.2.1 t10.2.2.2.2.2.2.1).bind fun t54 => (if ((((((((((((t10.2.1 : Int) != (wrap64 (t2.2.1 + (Int.tmod t9 50)))) || ((t10.2.2.2.2.1 : Int) != (wrap64 (t2.2.2.2.2.1 + (Int.tmod t9 50)))))) || (!t54.2.2.2.2.2.2.2))) || (!(t54.2.1 == t2.2.1 && (t54.2.2.1 == t2.2.2.1 && (t54.2.2.2.1 == t2.2.2.2.1)))))) || ((t54.2.2.2.2.1 : Int) != t2.2.2.2.2.1))) || ((((t54.1.length : Int)) : Int) != ((t2.1.length : Int))))) = true then some false else ((impl_Enter.f t2.1 t2.2.1 t2.2.2.1 t2.2.2.2.1 t2.2.2.2.2.1 t2.2.2.2.2.2.1 t2.2.2.2.2.2.2 2 (wrap64 (t2.2.1 + t2.2.2.1))).bind fun t64 => ((impl_Enter.f t2.1 t2.2.1 t2.2.2.1 t2.2.2.2.1 t2.2.2.2.2.1 t2.2.2.2.2.2.1 t2.2.2.2.2.2.2 2 (wrap64 ((wrap64 (t2.2.1 + t2.2.2.1)) + 1))).bind fun t68 => ((impl_Enter.f t2.1 t2.2.1 t2.2.2.1 t2.2.2.2.1 t2.2.2.2.2.1 t2.2.2.2.2.2.1 t2.2.2.2.2.2.2 4 0).bind fun t72 => ((impl_EventOn.f t2.2.1 t2.2.2.1 t2.2.2.2.1 3 t2.2.2.2.1).bind fun t76 => laws_FnBooks.l1 k t2 t64 t10 t68 t72 t76 0 0)))))) else ((impl_Enter.f t2.1 t2.2.1 t2.2.2.1 t2.2.2.2.1 t2.2.2.2.2.1 t2.2.2.2.2.2.1 t2.2.2.2.2.2.2 2 (wrap64 (t2.2.1 + t2.2.2.1))).bind fun t16 => ((impl_Enter.f t2.1 t2.2.1 t2.2.2.1 t2.2.2.2.1 t2.2.2.2.2.1 t2.2.2.2.2.2.1 t2.2.2.2.2.2.2 2 (wrap64 ((wrap64 (t2.2.1 + t2.2.2.1)) + 1))).bind fun t20 => ((impl_Enter.f t2.1 t2.2.1 t2.2.2.1 t2.2.2.2.1 t2.2.2.2.2.1 t2.2.2.2.2.2.1 t2.2.2.2.2.2.2 4 0).bind fun t24 => ((impl_EventOn.f t2.2.1 t2.2.2.1 t2.2.2.2.1 3 t2.2.2.2.1).bind fun t28 => laws_FnBooks.l0 k t2 l0 t16 t10 t20 t24 t28 0 0)))))))))))))
theorem laws_FnBooks.mono_l : ∀ k, (∀ y0 y1 y2 y3 y4 y5 y6 y7 y8, LeO (laws_FnBooks.l0 k y0 y1 y2 y3 y4 y5 y6 y7 y8) (laws_FnBooks.l0 (k + 1) y0 y1 y2 y3 y4 y5 y6 y7 y8)) ∧ (∀ y0 y1 y2 y3 y4 y5 y6 y7, LeO (laws_FnBooks.l1 k y0 y1 y2 y3 y4 y5 y6 y7) (laws_FnBooks.l1 (k + 1) y0 y1 y2 y3 y4 y5 y6 y7))
  | 0 => ⟨fun _ _ _ _ _ _ _ _ _ r h => by simp [laws_FnBooks.l0] at h, fun _ _ _ _ _ _ _ _ r h => by simp [laws_FnBooks.l1] at h⟩
  | k + 1 => by
    obtain ⟨ih0, ih1⟩ := laws_FnBooks.mono_l k
    refine ⟨?_, ?_⟩
    · intro y0 y1 y2 y3 y4 y5 y6 y7 y8
      unfold laws_FnBooks.l0
      repeat' first
      | (with_reducible exact ih0 _ _ _ _ _ _ _ _ _)
      | (with_reducible exact ih1 _ _ _ _ _ _ _ _)
      | (with_reducible exact impl_DaysIn.mono _ _ _ _ _ _ _ _)
      | (with_reducible exact impl_Strike.mono _ _ _ _ _ _ _ _)
      | (with_reducible exact spec_DrawBook.mono _ _)
      | (with_reducible exact LeO.refl _)
      | (with_reducible exact LeO.none _)
      | (with_reducible refine LeO.ite ?_ ?_)
      | (with_reducible refine LeO.bind ?_ (fun _ => ?_))
      | exact ih0 _ _ _ _ _ _ _ _ _
      | exact ih1 _ _ _ _ _ _ _ _
      | exact impl_DaysIn.mono _ _ _ _ _ _ _ _
      | exact impl_Strike.mono _ _ _ _ _ _ _ _
      | exact spec_DrawBook.mono _ _
      | exact LeO.none _
      | refine LeO.ite ?_ ?_
      | refine LeO.bind ?_ (fun _ => ?_)
    · intro y0 y1 y2 y3 y4 y5 y6 y7
      unfold laws_FnBooks.l1
      repeat' first
      | (with_reducible exact ih0 _ _ _ _ _ _ _ _ _)
      | (with_reducible exact ih1 _ _ _ _ _ _ _ _)
      | (with_reducible exact impl_DaysIn.mono _ _ _ _ _ _ _ _)
      | (with_reducible exact impl_Strike.mono _ _ _ _ _ _ _ _)
      | (with_reducible exact spec_DrawBook.mono _ _)
      | (with_reducible exact LeO.refl _)
      | (with_reducible exact LeO.none _)
      | (with_reducible refine LeO.ite ?_ ?_)
      | (with_reducible refine LeO.bind ?_ (fun _ => ?_))
      | exact ih0 _ _ _ _ _ _ _ _ _
      | exact ih1 _ _ _ _ _ _ _ _
      | exact impl_DaysIn.mono _ _ _ _ _ _ _ _
      | exact impl_Strike.mono _ _ _ _ _ _ _ _
      | exact spec_DrawBook.mono _ _
      | exact LeO.none _
      | refine LeO.ite ?_ ?_
      | refine LeO.bind ?_ (fun _ => ?_)
theorem laws_FnBooks.mono : ∀ a0 k, LeO (laws_FnBooks.f k a0) (laws_FnBooks.f (k + 1) a0) := by
  intro a0 k
  obtain ⟨ih0, ih1⟩ := laws_FnBooks.mono_l k
  unfold laws_FnBooks.f
  repeat' first
      | (with_reducible exact ih0 _ _ _ _ _ _ _ _ _)
      | (with_reducible exact ih1 _ _ _ _ _ _ _ _)
      | (with_reducible exact impl_DaysIn.mono _ _ _ _ _ _ _ _)
      | (with_reducible exact impl_Strike.mono _ _ _ _ _ _ _ _)
      | (with_reducible exact spec_DrawBook.mono _ _)
      | (with_reducible exact LeO.refl _)
      | (with_reducible exact LeO.none _)
      | (with_reducible refine LeO.ite ?_ ?_)
      | (with_reducible refine LeO.bind ?_ (fun _ => ?_))
      | exact ih0 _ _ _ _ _ _ _ _ _
      | exact ih1 _ _ _ _ _ _ _ _
      | exact impl_DaysIn.mono _ _ _ _ _ _ _ _
      | exact impl_Strike.mono _ _ _ _ _ _ _ _
      | exact spec_DrawBook.mono _ _
      | exact LeO.none _
      | refine LeO.ite ?_ ?_
      | refine LeO.bind ?_ (fun _ => ?_)
set_option maxHeartbeats 4000000 in
set_option maxRecDepth 100000 in
theorem laws_FnBooks.calls (k : Nat) (A0 : Option Addr) (c0 : Nat) (l0 : List Int) (r : Bool) (w : World) (hr0 : Kd.C (Kd.int .u8) w A0 l0.length l0) (hc0 : l0.length ≤ c0) (h : laws_FnBooks.f k l0 = some r) :
    Calls Try.prog 4 #[.slice A0 l0.length c0] w fun e w' => e = .returned (.bool r) ∧ Below w.heap.size w w' := by
  unfold laws_FnBooks.f at h
  refine SyC.start (args := [_]) Try.func4 rfl Try.ntmps4 rfl ?_
  refine SyC.seq ?_
  refine SyC.region ?_
  refine SyL.x (x_move (.inr rfl) rfl) rfl rfl rfl ?_
  refine SyL.nil ?_
  refine SyP.seqN ?_
  refine SyC.seq ?_
  refine SyC.seq ?_
  refine SyC.region ?_
  refine SyL.x (x_move (.inl rfl) rfl) rfl rfl rfl ?_
  obtain ⟨t1, ht1, h⟩ := bindS h
  refine SyL.callD (vs := [_]) rfl rfl cl8 rfl rfl rfl (fun w hw => laws_big.calls _ _ _ _ w (Kd.C_below hr0 hw.below) hc0 ht1) ?_
  refine SyL.nil ?_
  refine SyP.seqN ?_
  cases t1
  · replace h := iteF rfl h
    refine SyC.condF rfl ?_
    refine SyC.skip ?_
    refine SyP.seqN ?_
    refine SyC.seq ?_
    refine SyC.region ?_
    refine SyL.x (x_move (.inl rfl) rfl) rfl rfl rfl ?_
    obtain ⟨t2, ht2, h⟩ := bindS h
    refine SyL.call1 (vs := [_]) rfl rfl cl16 rfl rfl rfl (fun w hw => spec_DrawBook.calls k _ _ _ _ _ _ _ _ _ _ w (Kd.C_below hr0 hw.below) hc0 ht2) fun A3 c4 => ?_
    refine SyL.alloc rfl zero35 rfl rfl rfl fun g5 => ?_
    refine SyL.storeW (i := 0) rfl rfl rfl rfl rfl rfl size35 rfl rfl rfl rfl rfl ?_
    refine SyL.nil ?_
    refine SyP.seqN ?_
    refine SyC.seq ?_
    refine SyC.region ?_
    refine SyL.x (x_fieldAddr (m := 1) rfl rfl fo35_1 rfl) rfl rfl rfl ?_
    refine SyL.x (x_loadA (i := 0) (mid := [.int .i64 t2.2.1, .int .i64 t2.2.2.1, .int .i64 t2.2.2.2.1]) rfl rfl rfl rfl agg33 rfl rfl) rfl rfl rfl ?_
    refine SyL.alloc rfl zero33 rfl rfl rfl fun g6 => ?_
    refine SyL.storeW (i := 0) rfl rfl rfl rfl rfl rfl size33 rfl rfl rfl rfl rfl ?_
    refine SyL.nil ?_
    refine SyP.seqN ?_
    refine SyC.seq ?_
    refine SyC.seq ?_
    refine SyC.region ?_
    refine SyL.x (x_loadW (i := 1) rfl rfl rfl rfl agg35) rfl rfl rfl ?_
    obtain ⟨t7, ht7, h⟩ := bindS h
    refine SyL.call0 (vs := [_]) rfl rfl cl15 rfl rfl rfl (fun w hw => impl_BookOk.calls _ _ _ _ _ _ _ _ _ _ w (hw.rd 0 rfl) (hw.rl 0 rfl) ht7) ?_
    refine SyL.x (x_not rfl rfl) rfl rfl rfl ?_
    refine SyL.x (x_move (.inl rfl) rfl) rfl rfl rfl ?_
    refine SyL.join (Fr2 := [(51, .bool ((!t7) || ((t2.2.2.2.2.1 : Int) != (wrap64 ((wrap64 ((wrap64 ((wrap64 (t2.2.2.2.2.2.1 + t2.2.2.2.2.2.2)) + t2.2.1)) + t2.2.2.1)) + t2.2.2.2.1))))), (0, .slice A0 l0.length c0), (2, .bool false), (3, .pointer (some ⟨g5, 0, none⟩)), (4, .pointer (some ⟨g6, 0, none⟩))]) 18 (fun K hK => ?_) ?_
    · cases t7
      · refine SyL.skip rfl rfl rfl ?_
        refine SyL.skip rfl rfl rfl ?_
        refine SyL.skip rfl rfl rfl ?_
        refine SyL.skip rfl rfl rfl ?_
        refine SyL.skip rfl rfl rfl ?_
        refine SyL.skip rfl rfl rfl ?_
        refine SyL.skip rfl rfl rfl ?_
        refine SyL.skip rfl rfl rfl ?_
        refine SyL.skip rfl rfl rfl ?_
        refine SyL.skip rfl rfl rfl ?_
        refine SyL.skip rfl rfl rfl ?_
        refine SyL.skip rfl rfl rfl ?_
        refine SyL.skip rfl rfl rfl ?_
        refine SyL.skip rfl rfl rfl ?_
        refine SyL.skip rfl rfl rfl ?_
        refine SyL.skip rfl rfl rfl ?_
        refine SyL.skip rfl rfl rfl ?_
        refine SyL.x (x_pickT rfl rfl rfl) rfl rfl rfl ?_
        refine SyL.nil ?_
        exact SyP.to hK ⟨lk_orT (notF rfl) rfl, rfl, rfl, rfl, rfl, trivial⟩
      · refine SyL.x (x_fieldAddr (m := 4) rfl rfl fo35_2 rfl) rfl rfl rfl ?_
        refine SyL.x (x_load1 (i := 1) rfl rfl rfl rfl one3 rfl) rfl rfl rfl ?_
        refine SyL.x (x_fieldAddr (m := 5) rfl rfl fo35_3 rfl) rfl rfl rfl ?_
        refine SyL.x (x_load1 (i := 1) rfl rfl rfl rfl one3 rfl) rfl rfl rfl ?_
        refine SyL.x (x_fieldAddr (m := 6) rfl rfl fo35_4 rfl) rfl rfl rfl ?_
        refine SyL.x (x_load1 (i := 1) rfl rfl rfl rfl one3 rfl) rfl rfl rfl ?_
        refine SyL.x (x_arith64 rfl rfl rfl rfl) rfl rfl rfl ?_
        refine SyL.x (x_fieldAddr (m := 0) rfl rfl fo33_0 rfl) rfl rfl rfl ?_
        refine SyL.x (x_load1 (i := 0) rfl rfl rfl rfl one3 rfl) rfl rfl rfl ?_
        refine SyL.x (x_arith64 rfl rfl rfl rfl) rfl rfl rfl ?_
        refine SyL.x (x_fieldAddr (m := 1) rfl rfl fo33_1 rfl) rfl rfl rfl ?_
        refine SyL.x (x_load1 (i := 0) rfl rfl rfl rfl one3 rfl) rfl rfl rfl ?_
        refine SyL.x (x_arith64 rfl rfl rfl rfl) rfl rfl rfl ?_
        refine SyL.x (x_fieldAddr (m := 2) rfl rfl fo33_2 rfl) rfl rfl rfl ?_
        refine SyL.x (x_load1 (i := 0) rfl rfl rfl rfl one3 rfl) rfl rfl rfl ?_
        refine SyL.x (x_arith64 rfl rfl rfl rfl) rfl rfl rfl ?_
        refine SyL.x (x_cmp rfl rfl rfl rfl) rfl rfl rfl ?_
        refine SyL.x (x_pickF rfl rfl rfl) rfl rfl rfl ?_
        refine SyL.nil ?_
        exact SyP.to hK ⟨lk_orF (notT rfl) rfl rfl, rfl, rfl, rfl, rfl, trivial⟩
    · refine SyL.nil ?_
      refine SyP.seqN ?_
      refine SyC.boolAt (d := 51) rfl fun b8 hb8 => ?_
      cases b8
      · replace h := iteF hb8 h
        refine SyC.condF rfl ?_
        refine SyC.skip ?_
        refine SyP.seqN ?_
        refine SyC.seq ?_
        refine SyC.region ?_
        refine SyL.x (x_move (.inl rfl) rfl) rfl rfl rfl ?_
        obtain ⟨t9, ht9, h⟩ := bindS h
        refine SyL.callD (vs := [_, _]) rfl rfl cl17 rfl rfl rfl (fun w hw => laws_at.calls _ _ _ _ _ w (Kd.C_below hr0 hw.below) hc0 ht9) ?_
        refine SyL.x (x_rem rfl rfl rfl rfl) rfl rfl rfl ?_
        refine SyL.x (x_move (.inr rfl) rfl) rfl rfl rfl ?_
        refine SyL.nil ?_
        refine SyP.seqN ?_
        refine SyC.seq ?_
        refine SyC.region ?_
        refine SyL.x (x_loadW (i := 1) rfl rfl rfl rfl agg35) rfl rfl rfl ?_
        refine SyL.x (x_move (.inl rfl) rfl) rfl rfl rfl ?_
        refine SyL.x (x_build (us := [(0, .int .i64 1), (1, .int .i64 (Int.tmod t9 50))]) (cells := #[.int .i64 1, .int .i64 (Int.tmod t9 50)]) rfl bt54 rfl rfl) rfl rfl rfl ?_
        obtain ⟨t10, ht10, h⟩ := bindS h
        refine SyL.call1 (vs := [_, _]) rfl rfl cl18 rfl rfl rfl (fun w hw => impl_Enter.calls _ _ _ _ _ _ _ _ _ _ _ _ _ _ _ _ _ _ _ w (hw.rd 0 rfl) (hw.rl 0 rfl) ht10) fun A11 c12 => ?_
        refine SyL.x (x_move (.inl rfl) rfl) rfl rfl rfl ?_
        refine SyL.x (x_extract rfl rfl rfl) rfl rfl rfl ?_
        refine SyL.x (x_extract rfl rfl rfl) rfl rfl rfl ?_
        refine SyL.alloc rfl zero35 rfl rfl rfl fun g13 => ?_
        refine SyL.storeW (i := 0) rfl rfl rfl rfl rfl rfl size35 rfl rfl rfl rfl rfl ?_
        refine SyL.x (x_move (.inr rfl) rfl) rfl rfl rfl ?_
        refine SyL.nil ?_
        refine SyP.seqN ?_
        refine SyC.seq ?_
        refine SyC.seq ?_
        refine SyC.region ?_
        refine SyL.x (x_move (.inl rfl) rfl) rfl rfl rfl ?_
        refine SyL.x (x_fieldAddr (m := 0) rfl rfl fo35_0 rfl) rfl rfl rfl ?_
        refine SyL.x (x_load1 (i := 2) rfl rfl rfl rfl one31 rfl) rfl rfl rfl ?_
        refine SyL.x (x_len rfl rfl Try.underlying31) rfl rfl rfl ?_
        refine SyL.x (x_cmp rfl rfl rfl rfl) rfl rfl rfl ?_
        refine SyL.x (x_bne rfl rfl rfl (eqB4 _ _)) rfl rfl rfl ?_
        refine SyL.nil ?_
        refine SyP.seqN ?_
        refine SyC.boolAt (d := 67) rfl fun b14 hb14 => ?_
        cases b14
        · replace h := iteF hb14 h
          refine SyC.condF rfl ?_
          refine SyC.skip ?_
          refine SyP.seqN ?_
          refine SyC.seq ?_
          refine SyC.seq ?_
          refine SyC.region ?_
          refine SyL.x (x_move (.inl rfl) rfl) rfl rfl rfl ?_
          refine SyL.nil ?_
          refine SyP.seqN ?_
          refine SyC.boolAt (d := 68) rfl fun b15 hb15 => ?_
          cases b15
          · replace h := iteF hb15 h
            refine SyC.condF rfl ?_
            refine SyC.skip ?_
            refine SyP.seqN ?_
            refine SyC.seq ?_
            refine SyC.region ?_
            refine SyL.x (x_loadW (i := 2) rfl rfl rfl rfl agg35) rfl rfl rfl ?_
            refine SyL.x (x_fieldAddr (m := 0) rfl rfl fo33_0 rfl) rfl rfl rfl ?_
            refine SyL.x (x_load1 (i := 1) rfl rfl rfl rfl one3 rfl) rfl rfl rfl ?_
            refine SyL.x (x_fieldAddr (m := 1) rfl rfl fo33_1 rfl) rfl rfl rfl ?_
            refine SyL.x (x_load1 (i := 1) rfl rfl rfl rfl one3 rfl) rfl rfl rfl ?_
            refine SyL.x (x_arith64 rfl rfl rfl rfl) rfl rfl rfl ?_
            refine SyL.x (x_build (us := [(0, .int .i64 2), (1, .int .i64 (wrap64 (t2.2.1 + t2.2.2.1)))]) (cells := #[.int .i64 2, .int .i64 (wrap64 (t2.2.1 + t2.2.2.1))]) rfl bt54 rfl rfl) rfl rfl rfl ?_
            obtain ⟨t16, ht16, h⟩ := bindS h
            refine SyL.call1 (vs := [_, _]) rfl rfl cl18 rfl rfl rfl (fun w hw => impl_Enter.calls _ _ _ _ _ _ _ _ _ _ _ _ _ _ _ _ _ _ _ w (hw.rd 1 rfl) (hw.rl 1 rfl) ht16) fun A17 c18 => ?_
            refine SyL.x (x_move (.inl rfl) rfl) rfl rfl rfl ?_
            refine SyL.x (x_extract rfl rfl rfl) rfl rfl rfl ?_
            refine SyL.x (x_extract rfl rfl rfl) rfl rfl rfl ?_
            refine SyL.alloc rfl zero35 rfl rfl rfl fun g19 => ?_
            refine SyL.storeW (i := 0) rfl rfl rfl rfl rfl rfl size35 rfl rfl rfl rfl rfl ?_
            refine SyL.x (x_move (.inr rfl) rfl) rfl rfl rfl ?_
            refine SyL.nil ?_
            refine SyP.seqN ?_
            refine SyC.seq ?_
            refine SyC.region ?_
            refine SyL.x (x_loadW (i := 3) rfl rfl rfl rfl agg35) rfl rfl rfl ?_
            refine SyL.x (x_fieldAddr (m := 0) rfl rfl fo33_0 rfl) rfl rfl rfl ?_
            refine SyL.x (x_load1 (i := 2) rfl rfl rfl rfl one3 rfl) rfl rfl rfl ?_
            refine SyL.x (x_fieldAddr (m := 1) rfl rfl fo33_1 rfl) rfl rfl rfl ?_
            refine SyL.x (x_load1 (i := 2) rfl rfl rfl rfl one3 rfl) rfl rfl rfl ?_
            refine SyL.x (x_arith64 rfl rfl rfl rfl) rfl rfl rfl ?_
            refine SyL.x (x_arith64 rfl rfl rfl rfl) rfl rfl rfl ?_
            refine SyL.x (x_build (us := [(0, .int .i64 2), (1, .int .i64 (wrap64 ((wrap64 (t2.2.1 + t2.2.2.1)) + 1)))]) (cells := #[.int .i64 2, .int .i64 (wrap64 ((wrap64 (t2.2.1 + t2.2.2.1)) + 1))]) rfl bt54 rfl rfl) rfl rfl rfl ?_
            obtain ⟨t20, ht20, h⟩ := bindS h
            refine SyL.call1 (vs := [_, _]) rfl rfl cl18 rfl rfl rfl (fun w hw => impl_Enter.calls _ _ _ _ _ _ _ _ _ _ _ _ _ _ _ _ _ _ _ w (hw.rd 2 rfl) (hw.rl 2 rfl) ht20) fun A21 c22 => ?_
            refine SyL.x (x_move (.inl rfl) rfl) rfl rfl rfl ?_
            refine SyL.x (x_extract rfl rfl rfl) rfl rfl rfl ?_
            refine SyL.x (x_extract rfl rfl rfl) rfl rfl rfl ?_
            refine SyL.alloc rfl zero35 rfl rfl rfl fun g23 => ?_
            refine SyL.storeW (i := 0) rfl rfl rfl rfl rfl rfl size35 rfl rfl rfl rfl rfl ?_
            refine SyL.x (x_move (.inr rfl) rfl) rfl rfl rfl ?_
            refine SyL.nil ?_
            refine SyP.seqN ?_
            refine SyC.seq ?_
            refine SyC.region ?_
            refine SyL.x (x_loadW (i := 4) rfl rfl rfl rfl agg35) rfl rfl rfl ?_
            refine SyL.x (x_build (us := [(0, .int .i64 4)]) (cells := #[.int .i64 4, .int .i64 0]) rfl bt54 rfl rfl) rfl rfl rfl ?_
            obtain ⟨t24, ht24, h⟩ := bindS h
            refine SyL.call1 (vs := [_, _]) rfl rfl cl18 rfl rfl rfl (fun w hw => impl_Enter.calls _ _ _ _ _ _ _ _ _ _ _ _ _ _ _ _ _ _ _ w (hw.rd 3 rfl) (hw.rl 3 rfl) ht24) fun A25 c26 => ?_
            refine SyL.x (x_move (.inl rfl) rfl) rfl rfl rfl ?_
            refine SyL.x (x_extract rfl rfl rfl) rfl rfl rfl ?_
            refine SyL.x (x_extract rfl rfl rfl) rfl rfl rfl ?_
            refine SyL.alloc rfl zero35 rfl rfl rfl fun g27 => ?_
            refine SyL.storeW (i := 0) rfl rfl rfl rfl rfl rfl size35 rfl rfl rfl rfl rfl ?_
            refine SyL.x (x_move (.inr rfl) rfl) rfl rfl rfl ?_
            refine SyL.nil ?_
            refine SyP.seqN ?_
            refine SyC.seq ?_
            refine SyC.region ?_
            refine SyL.x (x_loadW (i := 4) rfl rfl rfl rfl agg33) rfl rfl rfl ?_
            refine SyL.x (x_fieldAddr (m := 2) rfl rfl fo33_2 rfl) rfl rfl rfl ?_
            refine SyL.x (x_load1 (i := 4) rfl rfl rfl rfl one3 rfl) rfl rfl rfl ?_
            refine SyL.x (x_build (us := [(0, .int .i64 3), (1, .int .i64 t2.2.2.2.1)]) (cells := #[.int .i64 3, .int .i64 t2.2.2.2.1]) rfl bt54 rfl rfl) rfl rfl rfl ?_
            obtain ⟨t28, ht28, h⟩ := bindS h
            refine SyL.call0 (vs := [_, _]) rfl rfl cl20 rfl rfl rfl (fun w hw => impl_EventOn.calls _ _ _ _ _ _ _ _ _ _ _ _ w  ht28) ?_
            refine SyL.x (x_move (.inl rfl) rfl) rfl rfl rfl ?_
            refine SyL.x (x_extract rfl rfl rfl) rfl rfl rfl ?_
            refine SyL.x (x_extract rfl rfl rfl) rfl rfl rfl ?_
            refine SyL.x (x_extract rfl rfl rfl) rfl rfl rfl ?_
            refine SyL.x (x_extract rfl rfl rfl) rfl rfl rfl ?_
            refine SyL.x (x_extract rfl rfl rfl) rfl rfl rfl ?_
            refine SyL.alloc rfl zero33 rfl rfl rfl fun g29 => ?_
            refine SyL.storeW (i := 0) rfl rfl rfl rfl rfl rfl size33 rfl rfl rfl rfl rfl ?_
            refine SyL.x (x_move (.inr rfl) rfl) rfl rfl rfl ?_
            refine SyL.x (x_move (.inr rfl) rfl) rfl rfl rfl ?_
            refine SyL.x (x_move (.inr rfl) rfl) rfl rfl rfl ?_
            refine SyL.x (x_move (.inr rfl) rfl) rfl rfl rfl ?_
            refine SyL.nil ?_
            refine SyP.seqN ?_
            refine SyC.seq ?_
            refine SyC.region ?_
            refine SyL.x (x_loadW (i := 6) rfl rfl rfl rfl agg35) rfl rfl rfl ?_
            refine SyL.alloc rfl zero35 rfl rfl rfl fun g30 => ?_
            refine SyL.storeW (i := 0) rfl rfl rfl rfl rfl rfl size35 rfl rfl rfl rfl rfl ?_
            refine SyL.nil ?_
            refine SyP.seqN ?_
            refine SyC.seq ?_
            refine SyC.region ?_
            refine SyL.x (x_fieldAddr (m := 4) rfl rfl fo35_2 rfl) rfl rfl rfl ?_
            refine SyL.x (x_load1 (i := 7) rfl rfl rfl rfl one3 rfl) rfl rfl rfl ?_
            refine SyL.x (x_arith64 rfl rfl rfl rfl) rfl rfl rfl ?_
            refine SyL.x (x_fieldAddr (m := 4) rfl rfl fo35_2 rfl) rfl rfl rfl ?_
            refine SyL.storeS (i := 0) (cs' := [.slice A3 t2.1.length c4, .int .i64 t2.2.1, .int .i64 t2.2.2.1, .int .i64 t2.2.2.2.1, .int .i64 (wrap64 (t2.2.2.2.2.1 + 1)), .int .i64 t2.2.2.2.2.2.1, .int .i64 t2.2.2.2.2.2.2]) rfl rfl rfl rfl rfl rfl size3 rfl rfl rfl rfl rfl rfl rfl ?_
            refine SyL.nil ?_
            refine SyP.seqN ?_
            refine SyC.seq ?_
            refine SyC.region ?_
            refine SyL.x (x_move (.inr rfl) rfl) rfl rfl rfl ?_
            refine SyL.nil ?_
            refine SyP.seqN ?_
            refine SyC.seq ?_
            refine SyC.seq ?_
            refine SyC.region ?_
            refine SyL.x (x_move (.inr rfl) rfl) rfl rfl rfl ?_
            refine SyL.nil ?_
            refine SyP.seqN ?_
            refine SyC.block ?_
            refine SyC.fewer (Fr2 := [(2, .bool false), (3, .pointer (some ⟨g5, 0, none⟩)), (4, .pointer (some ⟨g6, 0, none⟩)), (7, .bool t10.2.2.2.2.2.2.2), (10, .pointer (some ⟨g19, 0, none⟩)), (11, .bool t16.2.2.2.2.2.2.2), (13, .bool t20.2.2.2.2.2.2.2), (14, .pointer (some ⟨g27, 0, none⟩)), (15, .bool t24.2.2.2.2.2.2.2), (16, .pointer (some ⟨g29, 0, none⟩)), (17, .int .i64 t28.2.2.2.1), (18, .int .i64 t28.2.2.2.2.1), (19, .int .i64 t28.2.2.2.2.2.1), (20, .bool t28.2.2.2.2.2.2), (21, .pointer (some ⟨g30, 0, none⟩)), (22, .int .i64 0), (23, .int .i64 0)]) ⟨rfl, rfl, rfl, rfl, rfl, rfl, rfl, rfl, rfl, rfl, rfl, rfl, rfl, rfl, rfl, rfl, rfl, trivial⟩ ?_
            refine SyC.loop (X := Nat × Int × Int) (fun x => x.1) (fun x => [(2, .bool false), (3, .pointer (some ⟨g5, 0, none⟩)), (4, .pointer (some ⟨g6, 0, none⟩)), (7, .bool t10.2.2.2.2.2.2.2), (10, .pointer (some ⟨g19, 0, none⟩)), (11, .bool t16.2.2.2.2.2.2.2), (13, .bool t20.2.2.2.2.2.2.2), (14, .pointer (some ⟨g27, 0, none⟩)), (15, .bool t24.2.2.2.2.2.2.2), (16, .pointer (some ⟨g29, 0, none⟩)), (17, .int .i64 t28.2.2.2.1), (18, .int .i64 t28.2.2.2.2.1), (19, .int .i64 t28.2.2.2.2.2.1), (20, .bool t28.2.2.2.2.2.2), (21, .pointer (some ⟨g30, 0, none⟩)), (22, .int .i64 x.2.1), (23, .int .i64 x.2.2)]) (fun _ => _) (fun _ => _) (fun x => laws_FnBooks.l0 x.1 t2 l0 t16 t10 t20 t24 t28 x.2.1 x.2.2 = some r) (k, 0, 0) h ?_
            clear h
            rintro ⟨k, x31, x32⟩ h
            rcases k with _ | k
            · exact absurd h (by simp [laws_FnBooks.l0])
            replace h : laws_FnBooks.l0 (k + 1) t2 l0 t16 t10 t20 t24 t28 x31 x32 = some r := h
            rw [laws_FnBooks.l0] at h
            refine SyC.seq ?_
            refine SyC.seq ?_
            refine SyC.region ?_
            refine SyL.x (x_move (.inl rfl) rfl) rfl rfl rfl ?_
            refine SyL.x (x_fieldAddr (m := 0) rfl rfl fo35_0 rfl) rfl rfl rfl ?_
            refine SyL.x (x_load1 (i := 7) rfl rfl rfl rfl one31 rfl) rfl rfl rfl ?_
            refine SyL.x (x_len rfl rfl Try.underlying31) rfl rfl rfl ?_
            refine SyL.x (x_cmp rfl rfl rfl rfl) rfl rfl rfl ?_
            refine SyL.nil ?_
            refine SyP.seqN ?_
            refine SyC.boolAt (d := 166) rfl fun b33 hb33 => ?_
            cases b33
            · replace h := iteF hb33 h
              refine SyC.condF rfl ?_
              refine SyC.exit ?_
              refine SyP.seqE ?_
              refine SyP.seqE ?_
              refine SyP.blockE ?_
              refine SyP.seqN ?_
              refine SyC.seq ?_
              refine SyC.region ?_
              refine SyL.x (x_move (.inl rfl) rfl) rfl rfl rfl ?_
              refine SyL.x (x_move (.inl rfl) rfl) rfl rfl rfl ?_
              refine SyL.x (x_beq rfl rfl rfl (eqB4 _ _)) rfl rfl rfl ?_
              refine SyL.x (x_move (.inl rfl) rfl) rfl rfl rfl ?_
              refine SyL.boolAt (d := 182) rfl fun b34 hb34 => ?_
              refine SyL.join (Fr2 := [(210, .bool ((t16.2.2.2.2.2.2.2 == t10.2.2.2.2.2.2.2) && (((!t16.2.2.2.2.2.2.2) || ((((((t16.2.1 : Int) == 0) && ((t16.2.2.1 : Int) == 0))) && ((t16.2.2.2.2.2.1 : Int) == (wrap64 ((wrap64 (t2.2.2.2.2.2.1 + t2.2.1)) + t2.2.2.1))))))))), (2, .bool false), (3, .pointer (some ⟨g5, 0, none⟩)), (4, .pointer (some ⟨g6, 0, none⟩)), (7, .bool t10.2.2.2.2.2.2.2), (13, .bool t20.2.2.2.2.2.2.2), (14, .pointer (some ⟨g27, 0, none⟩)), (15, .bool t24.2.2.2.2.2.2.2), (16, .pointer (some ⟨g29, 0, none⟩)), (17, .int .i64 t28.2.2.2.1), (18, .int .i64 t28.2.2.2.2.1), (19, .int .i64 t28.2.2.2.2.2.1), (20, .bool t28.2.2.2.2.2.2), (21, .pointer (some ⟨g30, 0, none⟩)), (22, .int .i64 x31)]) 28 (fun K hK => ?_) ?_
              · cases b34
                · refine SyL.skip rfl rfl rfl ?_
                  refine SyL.skip rfl rfl rfl ?_
                  refine SyL.skip rfl rfl rfl ?_
                  refine SyL.skip rfl rfl rfl ?_
                  refine SyL.skip rfl rfl rfl ?_
                  refine SyL.skip rfl rfl rfl ?_
                  refine SyL.skip rfl rfl rfl ?_
                  refine SyL.skip rfl rfl rfl ?_
                  refine SyL.skip rfl rfl rfl ?_
                  refine SyL.skip rfl rfl rfl ?_
                  refine SyL.skip rfl rfl rfl ?_
                  refine SyL.skip rfl rfl rfl ?_
                  refine SyL.skip rfl rfl rfl ?_
                  refine SyL.skip rfl rfl rfl ?_
                  refine SyL.skip rfl rfl rfl ?_
                  refine SyL.skip rfl rfl rfl ?_
                  refine SyL.skip rfl rfl rfl ?_
                  refine SyL.skip rfl rfl rfl ?_
                  refine SyL.skip rfl rfl rfl ?_
                  refine SyL.skip rfl rfl rfl ?_
                  refine SyL.skip rfl rfl rfl ?_
                  refine SyL.skip rfl rfl rfl ?_
                  refine SyL.skip rfl rfl rfl ?_
                  refine SyL.skip rfl rfl rfl ?_
                  refine SyL.skip rfl rfl rfl ?_
                  refine SyL.skip rfl rfl rfl ?_
                  refine SyL.skip rfl rfl rfl ?_
                  refine SyL.x (x_pickF rfl rfl rfl) rfl rfl rfl ?_
                  refine SyL.nil ?_
                  exact SyP.to hK ⟨lk_andF hb34 rfl, rfl, rfl, rfl, rfl, rfl, rfl, rfl, rfl, rfl, rfl, rfl, rfl, rfl, rfl, trivial⟩
                · refine SyL.x (x_move (.inl rfl) rfl) rfl rfl rfl ?_
                  refine SyL.x (x_not rfl rfl) rfl rfl rfl ?_
                  refine SyL.x (x_move (.inl rfl) rfl) rfl rfl rfl ?_
                  refine SyL.boolAt (d := 185) rfl fun b35 hb35 => ?_
                  refine SyL.join (Fr2 := [(209, .bool ((!t16.2.2.2.2.2.2.2) || ((((((t16.2.1 : Int) == 0) && ((t16.2.2.1 : Int) == 0))) && ((t16.2.2.2.2.2.1 : Int) == (wrap64 ((wrap64 (t2.2.2.2.2.2.1 + t2.2.1)) + t2.2.2.1))))))), (2, .bool false), (3, .pointer (some ⟨g5, 0, none⟩)), (4, .pointer (some ⟨g6, 0, none⟩)), (7, .bool t10.2.2.2.2.2.2.2), (13, .bool t20.2.2.2.2.2.2.2), (14, .pointer (some ⟨g27, 0, none⟩)), (15, .bool t24.2.2.2.2.2.2.2), (16, .pointer (some ⟨g29, 0, none⟩)), (17, .int .i64 t28.2.2.2.1), (18, .int .i64 t28.2.2.2.2.1), (19, .int .i64 t28.2.2.2.2.2.1), (20, .bool t28.2.2.2.2.2.2), (21, .pointer (some ⟨g30, 0, none⟩)), (22, .int .i64 x31), (182, .bool true)]) 24 (fun K hK => ?_) ?_
                  · cases b35
                    · refine SyL.x (x_fieldAddr (m := 1) rfl rfl fo35_1 rfl) rfl rfl rfl ?_
                      refine SyL.x (x_fieldAddr (m := 1) rfl rfl fo33_0 rfl) rfl rfl rfl ?_
                      refine SyL.x (x_load1 (i := 4) rfl rfl rfl rfl one3 rfl) rfl rfl rfl ?_
                      refine SyL.x (x_cmp rfl rfl rfl rfl) rfl rfl rfl ?_
                      refine SyL.x (x_move (.inl rfl) rfl) rfl rfl rfl ?_
                      refine SyL.boolAt (d := 190) rfl fun b36 hb36 => ?_
                      refine SyL.join (Fr2 := [(195, .bool (((t16.2.1 : Int) == 0) && ((t16.2.2.1 : Int) == 0))), (2, .bool false), (3, .pointer (some ⟨g5, 0, none⟩)), (4, .pointer (some ⟨g6, 0, none⟩)), (7, .bool t10.2.2.2.2.2.2.2), (10, .pointer (some ⟨g19, 0, none⟩)), (13, .bool t20.2.2.2.2.2.2.2), (14, .pointer (some ⟨g27, 0, none⟩)), (15, .bool t24.2.2.2.2.2.2.2), (16, .pointer (some ⟨g29, 0, none⟩)), (17, .int .i64 t28.2.2.2.1), (18, .int .i64 t28.2.2.2.2.1), (19, .int .i64 t28.2.2.2.2.2.1), (20, .bool t28.2.2.2.2.2.2), (21, .pointer (some ⟨g30, 0, none⟩)), (22, .int .i64 x31), (182, .bool true), (185, .bool false)]) 5 (fun K hK => ?_) ?_
                      · cases b36
                        · refine SyL.skip rfl rfl rfl ?_
                          refine SyL.skip rfl rfl rfl ?_
                          refine SyL.skip rfl rfl rfl ?_
                          refine SyL.skip rfl rfl rfl ?_
                          refine SyL.x (x_pickF rfl rfl rfl) rfl rfl rfl ?_
                          refine SyL.nil ?_
                          exact SyP.to hK ⟨lk_andF hb36 rfl, rfl, rfl, rfl, rfl, rfl, rfl, rfl, rfl, rfl, rfl, rfl, rfl, rfl, rfl, rfl, rfl, rfl, trivial⟩
                        · refine SyL.x (x_fieldAddr (m := 1) rfl rfl fo35_1 rfl) rfl rfl rfl ?_
                          refine SyL.x (x_fieldAddr (m := 2) rfl rfl fo33_1 rfl) rfl rfl rfl ?_
                          refine SyL.x (x_load1 (i := 4) rfl rfl rfl rfl one3 rfl) rfl rfl rfl ?_
                          refine SyL.x (x_cmp rfl rfl rfl rfl) rfl rfl rfl ?_
                          refine SyL.x (x_pickT rfl rfl rfl) rfl rfl rfl ?_
                          refine SyL.nil ?_
                          exact SyP.to hK ⟨lk_andT hb36 rfl rfl, rfl, rfl, rfl, rfl, rfl, rfl, rfl, rfl, rfl, rfl, rfl, rfl, rfl, rfl, rfl, rfl, rfl, trivial⟩
                      · refine SyL.x (x_move (.inl rfl) rfl) rfl rfl rfl ?_
                        refine SyL.boolAt (d := 196) rfl fun b37 hb37 => ?_
                        refine SyL.join (Fr2 := [(208, .bool (((((t16.2.1 : Int) == 0) && ((t16.2.2.1 : Int) == 0))) && ((t16.2.2.2.2.2.1 : Int) == (wrap64 ((wrap64 (t2.2.2.2.2.2.1 + t2.2.1)) + t2.2.2.1))))), (2, .bool false), (3, .pointer (some ⟨g5, 0, none⟩)), (4, .pointer (some ⟨g6, 0, none⟩)), (7, .bool t10.2.2.2.2.2.2.2), (13, .bool t20.2.2.2.2.2.2.2), (14, .pointer (some ⟨g27, 0, none⟩)), (15, .bool t24.2.2.2.2.2.2.2), (16, .pointer (some ⟨g29, 0, none⟩)), (17, .int .i64 t28.2.2.2.1), (18, .int .i64 t28.2.2.2.2.1), (19, .int .i64 t28.2.2.2.2.2.1), (20, .bool t28.2.2.2.2.2.2), (21, .pointer (some ⟨g30, 0, none⟩)), (22, .int .i64 x31), (182, .bool true), (185, .bool false)]) 12 (fun K hK => ?_) ?_
                        · cases b37
                          · refine SyL.skip rfl rfl rfl ?_
                            refine SyL.skip rfl rfl rfl ?_
                            refine SyL.skip rfl rfl rfl ?_
                            refine SyL.skip rfl rfl rfl ?_
                            refine SyL.skip rfl rfl rfl ?_
                            refine SyL.skip rfl rfl rfl ?_
                            refine SyL.skip rfl rfl rfl ?_
                            refine SyL.skip rfl rfl rfl ?_
                            refine SyL.skip rfl rfl rfl ?_
                            refine SyL.skip rfl rfl rfl ?_
                            refine SyL.skip rfl rfl rfl ?_
                            refine SyL.x (x_pickF rfl rfl rfl) rfl rfl rfl ?_
                            refine SyL.nil ?_
                            exact SyP.to hK ⟨lk_andF hb37 rfl, rfl, rfl, rfl, rfl, rfl, rfl, rfl, rfl, rfl, rfl, rfl, rfl, rfl, rfl, rfl, rfl, trivial⟩
                          · refine SyL.x (x_fieldAddr (m := 5) rfl rfl fo35_3 rfl) rfl rfl rfl ?_
                            refine SyL.x (x_load1 (i := 4) rfl rfl rfl rfl one3 rfl) rfl rfl rfl ?_
                            refine SyL.x (x_fieldAddr (m := 5) rfl rfl fo35_3 rfl) rfl rfl rfl ?_
                            refine SyL.x (x_load1 (i := 7) rfl rfl rfl rfl one3 rfl) rfl rfl rfl ?_
                            refine SyL.x (x_fieldAddr (m := 0) rfl rfl fo33_0 rfl) rfl rfl rfl ?_
                            refine SyL.x (x_load1 (i := 6) rfl rfl rfl rfl one3 rfl) rfl rfl rfl ?_
                            refine SyL.x (x_arith64 rfl rfl rfl rfl) rfl rfl rfl ?_
                            refine SyL.x (x_fieldAddr (m := 1) rfl rfl fo33_1 rfl) rfl rfl rfl ?_
                            refine SyL.x (x_load1 (i := 6) rfl rfl rfl rfl one3 rfl) rfl rfl rfl ?_
                            refine SyL.x (x_arith64 rfl rfl rfl rfl) rfl rfl rfl ?_
                            refine SyL.x (x_cmp rfl rfl rfl rfl) rfl rfl rfl ?_
                            refine SyL.x (x_pickT rfl rfl rfl) rfl rfl rfl ?_
                            refine SyL.nil ?_
                            exact SyP.to hK ⟨lk_andT hb37 rfl rfl, rfl, rfl, rfl, rfl, rfl, rfl, rfl, rfl, rfl, rfl, rfl, rfl, rfl, rfl, rfl, rfl, trivial⟩
                        · refine SyL.x (x_pickF rfl rfl rfl) rfl rfl rfl ?_
                          refine SyL.nil ?_
                          exact SyP.to hK ⟨lk_orF hb35 rfl rfl, rfl, rfl, rfl, rfl, rfl, rfl, rfl, rfl, rfl, rfl, rfl, rfl, rfl, rfl, rfl, trivial⟩
                    · refine SyL.skip rfl rfl rfl ?_
                      refine SyL.skip rfl rfl rfl ?_
                      refine SyL.skip rfl rfl rfl ?_
                      refine SyL.skip rfl rfl rfl ?_
                      refine SyL.skip rfl rfl rfl ?_
                      refine SyL.skip rfl rfl rfl ?_
                      refine SyL.skip rfl rfl rfl ?_
                      refine SyL.skip rfl rfl rfl ?_
                      refine SyL.skip rfl rfl rfl ?_
                      refine SyL.skip rfl rfl rfl ?_
                      refine SyL.skip rfl rfl rfl ?_
                      refine SyL.skip rfl rfl rfl ?_
                      refine SyL.skip rfl rfl rfl ?_
                      refine SyL.skip rfl rfl rfl ?_
                      refine SyL.skip rfl rfl rfl ?_
                      refine SyL.skip rfl rfl rfl ?_
                      refine SyL.skip rfl rfl rfl ?_
                      refine SyL.skip rfl rfl rfl ?_
                      refine SyL.skip rfl rfl rfl ?_
                      refine SyL.skip rfl rfl rfl ?_
                      refine SyL.skip rfl rfl rfl ?_
                      refine SyL.skip rfl rfl rfl ?_
                      refine SyL.skip rfl rfl rfl ?_
                      refine SyL.x (x_pickT rfl rfl rfl) rfl rfl rfl ?_
                      refine SyL.nil ?_
                      exact SyP.to hK ⟨lk_orT hb35 rfl, rfl, rfl, rfl, rfl, rfl, rfl, rfl, rfl, rfl, rfl, rfl, rfl, rfl, rfl, rfl, trivial⟩
                  · refine SyL.x (x_pickT rfl rfl rfl) rfl rfl rfl ?_
                    refine SyL.nil ?_
                    exact SyP.to hK ⟨lk_andT hb34 rfl rfl, rfl, rfl, rfl, rfl, rfl, rfl, rfl, rfl, rfl, rfl, rfl, rfl, rfl, rfl, trivial⟩
              · refine SyL.x (x_move (.inl rfl) rfl) rfl rfl rfl ?_
                refine SyL.boolAt (d := 211) rfl fun b38 hb38 => ?_
                refine SyL.join (Fr2 := [(214, .bool ((((t16.2.2.2.2.2.2.2 == t10.2.2.2.2.2.2.2) && (((!t16.2.2.2.2.2.2.2) || ((((((t16.2.1 : Int) == 0) && ((t16.2.2.1 : Int) == 0))) && ((t16.2.2.2.2.2.1 : Int) == (wrap64 ((wrap64 (t2.2.2.2.2.2.1 + t2.2.1)) + t2.2.2.1))))))))) && (!t20.2.2.2.2.2.2.2))), (2, .bool false), (3, .pointer (some ⟨g5, 0, none⟩)), (4, .pointer (some ⟨g6, 0, none⟩)), (7, .bool t10.2.2.2.2.2.2.2), (14, .pointer (some ⟨g27, 0, none⟩)), (15, .bool t24.2.2.2.2.2.2.2), (16, .pointer (some ⟨g29, 0, none⟩)), (17, .int .i64 t28.2.2.2.1), (18, .int .i64 t28.2.2.2.2.1), (19, .int .i64 t28.2.2.2.2.2.1), (20, .bool t28.2.2.2.2.2.2), (21, .pointer (some ⟨g30, 0, none⟩)), (22, .int .i64 x31)]) 3 (fun K hK => ?_) ?_
                · cases b38
                  · refine SyL.skip rfl rfl rfl ?_
                    refine SyL.skip rfl rfl rfl ?_
                    refine SyL.x (x_pickF rfl rfl rfl) rfl rfl rfl ?_
                    refine SyL.nil ?_
                    exact SyP.to hK ⟨lk_andF hb38 rfl, rfl, rfl, rfl, rfl, rfl, rfl, rfl, rfl, rfl, rfl, rfl, rfl, rfl, trivial⟩
                  · refine SyL.x (x_move (.inl rfl) rfl) rfl rfl rfl ?_
                    refine SyL.x (x_not rfl rfl) rfl rfl rfl ?_
                    refine SyL.x (x_pickT rfl rfl rfl) rfl rfl rfl ?_
                    refine SyL.nil ?_
                    exact SyP.to hK ⟨lk_andT hb38 rfl rfl, rfl, rfl, rfl, rfl, rfl, rfl, rfl, rfl, rfl, rfl, rfl, rfl, rfl, trivial⟩
                · refine SyL.x (x_move (.inl rfl) rfl) rfl rfl rfl ?_
                  refine SyL.boolAt (d := 215) rfl fun b39 hb39 => ?_
                  refine SyL.join (Fr2 := [(219, .bool ((((((t16.2.2.2.2.2.2.2 == t10.2.2.2.2.2.2.2) && (((!t16.2.2.2.2.2.2.2) || ((((((t16.2.1 : Int) == 0) && ((t16.2.2.1 : Int) == 0))) && ((t16.2.2.2.2.2.1 : Int) == (wrap64 ((wrap64 (t2.2.2.2.2.2.1 + t2.2.1)) + t2.2.2.1))))))))) && (!t20.2.2.2.2.2.2.2))) && (t24.2.2.2.2.2.2.2 == t10.2.2.2.2.2.2.2))), (2, .bool false), (3, .pointer (some ⟨g5, 0, none⟩)), (4, .pointer (some ⟨g6, 0, none⟩)), (14, .pointer (some ⟨g27, 0, none⟩)), (15, .bool t24.2.2.2.2.2.2.2), (16, .pointer (some ⟨g29, 0, none⟩)), (17, .int .i64 t28.2.2.2.1), (18, .int .i64 t28.2.2.2.2.1), (19, .int .i64 t28.2.2.2.2.2.1), (20, .bool t28.2.2.2.2.2.2), (21, .pointer (some ⟨g30, 0, none⟩)), (22, .int .i64 x31)]) 4 (fun K hK => ?_) ?_
                  · cases b39
                    · refine SyL.skip rfl rfl rfl ?_
                      refine SyL.skip rfl rfl rfl ?_
                      refine SyL.skip rfl rfl rfl ?_
                      refine SyL.x (x_pickF rfl rfl rfl) rfl rfl rfl ?_
                      refine SyL.nil ?_
                      exact SyP.to hK ⟨lk_andF hb39 rfl, rfl, rfl, rfl, rfl, rfl, rfl, rfl, rfl, rfl, rfl, rfl, rfl, trivial⟩
                    · refine SyL.x (x_move (.inl rfl) rfl) rfl rfl rfl ?_
                      refine SyL.x (x_move (.inl rfl) rfl) rfl rfl rfl ?_
                      refine SyL.x (x_beq rfl rfl rfl (eqB4 _ _)) rfl rfl rfl ?_
                      refine SyL.x (x_pickT rfl rfl rfl) rfl rfl rfl ?_
                      refine SyL.nil ?_
                      exact SyP.to hK ⟨lk_andT hb39 rfl rfl, rfl, rfl, rfl, rfl, rfl, rfl, rfl, rfl, rfl, rfl, rfl, rfl, trivial⟩
                  · refine SyL.x (x_move (.inl rfl) rfl) rfl rfl rfl ?_
                    refine SyL.boolAt (d := 220) rfl fun b40 hb40 => ?_
                    refine SyL.join (Fr2 := [(241, .bool ((((((((t16.2.2.2.2.2.2.2 == t10.2.2.2.2.2.2.2) && (((!t16.2.2.2.2.2.2.2) || ((((((t16.2.1 : Int) == 0) && ((t16.2.2.1 : Int) == 0))) && ((t16.2.2.2.2.2.1 : Int) == (wrap64 ((wrap64 (t2.2.2.2.2.2.1 + t2.2.1)) + t2.2.2.1))))))))) && (!t20.2.2.2.2.2.2.2))) && (t24.2.2.2.2.2.2.2 == t10.2.2.2.2.2.2.2))) && (((!t24.2.2.2.2.2.2.2) || ((((t24.2.2.2.2.2.2.1 : Int) == (wrap64 (t2.2.2.2.2.2.2 + t2.2.2.2.1))) && ((t24.2.2.1 : Int) == t2.2.1))))))), (2, .bool false), (3, .pointer (some ⟨g5, 0, none⟩)), (4, .pointer (some ⟨g6, 0, none⟩)), (16, .pointer (some ⟨g29, 0, none⟩)), (17, .int .i64 t28.2.2.2.1), (18, .int .i64 t28.2.2.2.2.1), (19, .int .i64 t28.2.2.2.2.2.1), (20, .bool t28.2.2.2.2.2.2), (21, .pointer (some ⟨g30, 0, none⟩)), (22, .int .i64 x31)]) 21 (fun K hK => ?_) ?_
                    · cases b40
                      · refine SyL.skip rfl rfl rfl ?_
                        refine SyL.skip rfl rfl rfl ?_
                        refine SyL.skip rfl rfl rfl ?_
                        refine SyL.skip rfl rfl rfl ?_
                        refine SyL.skip rfl rfl rfl ?_
                        refine SyL.skip rfl rfl rfl ?_
                        refine SyL.skip rfl rfl rfl ?_
                        refine SyL.skip rfl rfl rfl ?_
                        refine SyL.skip rfl rfl rfl ?_
                        refine SyL.skip rfl rfl rfl ?_
                        refine SyL.skip rfl rfl rfl ?_
                        refine SyL.skip rfl rfl rfl ?_
                        refine SyL.skip rfl rfl rfl ?_
                        refine SyL.skip rfl rfl rfl ?_
                        refine SyL.skip rfl rfl rfl ?_
                        refine SyL.skip rfl rfl rfl ?_
                        refine SyL.skip rfl rfl rfl ?_
                        refine SyL.skip rfl rfl rfl ?_
                        refine SyL.skip rfl rfl rfl ?_
                        refine SyL.skip rfl rfl rfl ?_
                        refine SyL.x (x_pickF rfl rfl rfl) rfl rfl rfl ?_
                        refine SyL.nil ?_
                        exact SyP.to hK ⟨lk_andF hb40 rfl, rfl, rfl, rfl, rfl, rfl, rfl, rfl, rfl, rfl, rfl, trivial⟩
                      · refine SyL.x (x_move (.inl rfl) rfl) rfl rfl rfl ?_
                        refine SyL.x (x_not rfl rfl) rfl rfl rfl ?_
                        refine SyL.x (x_move (.inl rfl) rfl) rfl rfl rfl ?_
                        refine SyL.boolAt (d := 223) rfl fun b41 hb41 => ?_
                        refine SyL.join (Fr2 := [(240, .bool ((!t24.2.2.2.2.2.2.2) || ((((t24.2.2.2.2.2.2.1 : Int) == (wrap64 (t2.2.2.2.2.2.2 + t2.2.2.2.1))) && ((t24.2.2.1 : Int) == t2.2.1))))), (2, .bool false), (3, .pointer (some ⟨g5, 0, none⟩)), (4, .pointer (some ⟨g6, 0, none⟩)), (16, .pointer (some ⟨g29, 0, none⟩)), (17, .int .i64 t28.2.2.2.1), (18, .int .i64 t28.2.2.2.2.1), (19, .int .i64 t28.2.2.2.2.2.1), (20, .bool t28.2.2.2.2.2.2), (21, .pointer (some ⟨g30, 0, none⟩)), (22, .int .i64 x31), (220, .bool true)]) 17 (fun K hK => ?_) ?_
                        · cases b41
                          · refine SyL.x (x_fieldAddr (m := 6) rfl rfl fo35_4 rfl) rfl rfl rfl ?_
                            refine SyL.x (x_load1 (i := 2) rfl rfl rfl rfl one3 rfl) rfl rfl rfl ?_
                            refine SyL.x (x_fieldAddr (m := 6) rfl rfl fo35_4 rfl) rfl rfl rfl ?_
                            refine SyL.x (x_load1 (i := 7) rfl rfl rfl rfl one3 rfl) rfl rfl rfl ?_
                            refine SyL.x (x_fieldAddr (m := 2) rfl rfl fo33_2 rfl) rfl rfl rfl ?_
                            refine SyL.x (x_load1 (i := 6) rfl rfl rfl rfl one3 rfl) rfl rfl rfl ?_
                            refine SyL.x (x_arith64 rfl rfl rfl rfl) rfl rfl rfl ?_
                            refine SyL.x (x_cmp rfl rfl rfl rfl) rfl rfl rfl ?_
                            refine SyL.x (x_move (.inl rfl) rfl) rfl rfl rfl ?_
                            refine SyL.boolAt (d := 232) rfl fun b42 hb42 => ?_
                            refine SyL.join (Fr2 := [(239, .bool (((t24.2.2.2.2.2.2.1 : Int) == (wrap64 (t2.2.2.2.2.2.2 + t2.2.2.2.1))) && ((t24.2.2.1 : Int) == t2.2.1))), (2, .bool false), (3, .pointer (some ⟨g5, 0, none⟩)), (4, .pointer (some ⟨g6, 0, none⟩)), (16, .pointer (some ⟨g29, 0, none⟩)), (17, .int .i64 t28.2.2.2.1), (18, .int .i64 t28.2.2.2.2.1), (19, .int .i64 t28.2.2.2.2.2.1), (20, .bool t28.2.2.2.2.2.2), (21, .pointer (some ⟨g30, 0, none⟩)), (22, .int .i64 x31), (220, .bool true), (223, .bool false)]) 7 (fun K hK => ?_) ?_
                            · cases b42
                              · refine SyL.skip rfl rfl rfl ?_
                                refine SyL.skip rfl rfl rfl ?_
                                refine SyL.skip rfl rfl rfl ?_
                                refine SyL.skip rfl rfl rfl ?_
                                refine SyL.skip rfl rfl rfl ?_
                                refine SyL.skip rfl rfl rfl ?_
                                refine SyL.x (x_pickF rfl rfl rfl) rfl rfl rfl ?_
                                refine SyL.nil ?_
                                exact SyP.to hK ⟨lk_andF hb42 rfl, rfl, rfl, rfl, rfl, rfl, rfl, rfl, rfl, rfl, rfl, rfl, rfl, trivial⟩
                              · refine SyL.x (x_fieldAddr (m := 1) rfl rfl fo35_1 rfl) rfl rfl rfl ?_
                                refine SyL.x (x_fieldAddr (m := 2) rfl rfl fo33_1 rfl) rfl rfl rfl ?_
                                refine SyL.x (x_load1 (i := 2) rfl rfl rfl rfl one3 rfl) rfl rfl rfl ?_
                                refine SyL.x (x_fieldAddr (m := 0) rfl rfl fo33_0 rfl) rfl rfl rfl ?_
                                refine SyL.x (x_load1 (i := 6) rfl rfl rfl rfl one3 rfl) rfl rfl rfl ?_
                                refine SyL.x (x_cmp rfl rfl rfl rfl) rfl rfl rfl ?_
                                refine SyL.x (x_pickT rfl rfl rfl) rfl rfl rfl ?_
                                refine SyL.nil ?_
                                exact SyP.to hK ⟨lk_andT hb42 rfl rfl, rfl, rfl, rfl, rfl, rfl, rfl, rfl, rfl, rfl, rfl, rfl, rfl, trivial⟩
                            · refine SyL.x (x_pickF rfl rfl rfl) rfl rfl rfl ?_
                              refine SyL.nil ?_
                              exact SyP.to hK ⟨lk_orF hb41 rfl rfl, rfl, rfl, rfl, rfl, rfl, rfl, rfl, rfl, rfl, rfl, rfl, trivial⟩
                          · refine SyL.skip rfl rfl rfl ?_
                            refine SyL.skip rfl rfl rfl ?_
                            refine SyL.skip rfl rfl rfl ?_
                            refine SyL.skip rfl rfl rfl ?_
                            refine SyL.skip rfl rfl rfl ?_
                            refine SyL.skip rfl rfl rfl ?_
                            refine SyL.skip rfl rfl rfl ?_
                            refine SyL.skip rfl rfl rfl ?_
                            refine SyL.skip rfl rfl rfl ?_
                            refine SyL.skip rfl rfl rfl ?_
                            refine SyL.skip rfl rfl rfl ?_
                            refine SyL.skip rfl rfl rfl ?_
                            refine SyL.skip rfl rfl rfl ?_
                            refine SyL.skip rfl rfl rfl ?_
                            refine SyL.skip rfl rfl rfl ?_
                            refine SyL.skip rfl rfl rfl ?_
                            refine SyL.x (x_pickT rfl rfl rfl) rfl rfl rfl ?_
                            refine SyL.nil ?_
                            exact SyP.to hK ⟨lk_orT hb41 rfl, rfl, rfl, rfl, rfl, rfl, rfl, rfl, rfl, rfl, rfl, rfl, trivial⟩
                        · refine SyL.x (x_pickT rfl rfl rfl) rfl rfl rfl ?_
                          refine SyL.nil ?_
                          exact SyP.to hK ⟨lk_andT hb40 rfl rfl, rfl, rfl, rfl, rfl, rfl, rfl, rfl, rfl, rfl, rfl, trivial⟩
                    · refine SyL.x (x_move (.inl rfl) rfl) rfl rfl rfl ?_
                      refine SyL.boolAt (d := 242) rfl fun b43 hb43 => ?_
                      refine SyL.join (Fr2 := [(244, .bool ((((((((((t16.2.2.2.2.2.2.2 == t10.2.2.2.2.2.2.2) && (((!t16.2.2.2.2.2.2.2) || ((((((t16.2.1 : Int) == 0) && ((t16.2.2.1 : Int) == 0))) && ((t16.2.2.2.2.2.1 : Int) == (wrap64 ((wrap64 (t2.2.2.2.2.2.1 + t2.2.1)) + t2.2.2.1))))))))) && (!t20.2.2.2.2.2.2.2))) && (t24.2.2.2.2.2.2.2 == t10.2.2.2.2.2.2.2))) && (((!t24.2.2.2.2.2.2.2) || ((((t24.2.2.2.2.2.2.1 : Int) == (wrap64 (t2.2.2.2.2.2.2 + t2.2.2.2.1))) && ((t24.2.2.1 : Int) == t2.2.1))))))) && t28.2.2.2.2.2.2)), (2, .bool false), (3, .pointer (some ⟨g5, 0, none⟩)), (4, .pointer (some ⟨g6, 0, none⟩)), (16, .pointer (some ⟨g29, 0, none⟩)), (17, .int .i64 t28.2.2.2.1), (18, .int .i64 t28.2.2.2.2.1), (19, .int .i64 t28.2.2.2.2.2.1), (21, .pointer (some ⟨g30, 0, none⟩)), (22, .int .i64 x31)]) 2 (fun K hK => ?_) ?_
                      · cases b43
                        · refine SyL.skip rfl rfl rfl ?_
                          refine SyL.x (x_pickF rfl rfl rfl) rfl rfl rfl ?_
                          refine SyL.nil ?_
                          exact SyP.to hK ⟨lk_andF hb43 rfl, rfl, rfl, rfl, rfl, rfl, rfl, rfl, rfl, rfl, trivial⟩
                        · refine SyL.x (x_move (.inl rfl) rfl) rfl rfl rfl ?_
                          refine SyL.x (x_pickT rfl rfl rfl) rfl rfl rfl ?_
                          refine SyL.nil ?_
                          exact SyP.to hK ⟨lk_andT hb43 rfl rfl, rfl, rfl, rfl, rfl, rfl, rfl, rfl, rfl, rfl, trivial⟩
                      · refine SyL.x (x_move (.inl rfl) rfl) rfl rfl rfl ?_
                        refine SyL.boolAt (d := 245) rfl fun b44 hb44 => ?_
                        refine SyL.join (Fr2 := [(249, .bool ((((((((((((t16.2.2.2.2.2.2.2 == t10.2.2.2.2.2.2.2) && (((!t16.2.2.2.2.2.2.2) || ((((((t16.2.1 : Int) == 0) && ((t16.2.2.1 : Int) == 0))) && ((t16.2.2.2.2.2.1 : Int) == (wrap64 ((wrap64 (t2.2.2.2.2.2.1 + t2.2.1)) + t2.2.2.1))))))))) && (!t20.2.2.2.2.2.2.2))) && (t24.2.2.2.2.2.2.2 == t10.2.2.2.2.2.2.2))) && (((!t24.2.2.2.2.2.2.2) || ((((t24.2.2.2.2.2.2.1 : Int) == (wrap64 (t2.2.2.2.2.2.2 + t2.2.2.2.1))) && ((t24.2.2.1 : Int) == t2.2.1))))))) && t28.2.2.2.2.2.2)) && ((t28.2.2.1 : Int) == 0))), (2, .bool false), (3, .pointer (some ⟨g5, 0, none⟩)), (4, .pointer (some ⟨g6, 0, none⟩)), (17, .int .i64 t28.2.2.2.1), (18, .int .i64 t28.2.2.2.2.1), (19, .int .i64 t28.2.2.2.2.2.1), (21, .pointer (some ⟨g30, 0, none⟩)), (22, .int .i64 x31)]) 4 (fun K hK => ?_) ?_
                        · cases b44
                          · refine SyL.skip rfl rfl rfl ?_
                            refine SyL.skip rfl rfl rfl ?_
                            refine SyL.skip rfl rfl rfl ?_
                            refine SyL.x (x_pickF rfl rfl rfl) rfl rfl rfl ?_
                            refine SyL.nil ?_
                            exact SyP.to hK ⟨lk_andF hb44 rfl, rfl, rfl, rfl, rfl, rfl, rfl, rfl, rfl, trivial⟩
                          · refine SyL.x (x_fieldAddr (m := 2) rfl rfl fo33_2 rfl) rfl rfl rfl ?_
                            refine SyL.x (x_load1 (i := 1) rfl rfl rfl rfl one3 rfl) rfl rfl rfl ?_
                            refine SyL.x (x_cmp rfl rfl rfl rfl) rfl rfl rfl ?_
                            refine SyL.x (x_pickT rfl rfl rfl) rfl rfl rfl ?_
                            refine SyL.nil ?_
                            exact SyP.to hK ⟨lk_andT hb44 rfl rfl, rfl, rfl, rfl, rfl, rfl, rfl, rfl, rfl, trivial⟩
                        · refine SyL.x (x_move (.inl rfl) rfl) rfl rfl rfl ?_
                          refine SyL.boolAt (d := 250) rfl fun b45 hb45 => ?_
                          refine SyL.join (Fr2 := [(253, .bool ((((((((((((((t16.2.2.2.2.2.2.2 == t10.2.2.2.2.2.2.2) && (((!t16.2.2.2.2.2.2.2) || ((((((t16.2.1 : Int) == 0) && ((t16.2.2.1 : Int) == 0))) && ((t16.2.2.2.2.2.1 : Int) == (wrap64 ((wrap64 (t2.2.2.2.2.2.1 + t2.2.1)) + t2.2.2.1))))))))) && (!t20.2.2.2.2.2.2.2))) && (t24.2.2.2.2.2.2.2 == t10.2.2.2.2.2.2.2))) && (((!t24.2.2.2.2.2.2.2) || ((((t24.2.2.2.2.2.2.1 : Int) == (wrap64 (t2.2.2.2.2.2.2 + t2.2.2.2.1))) && ((t24.2.2.1 : Int) == t2.2.1))))))) && t28.2.2.2.2.2.2)) && ((t28.2.2.1 : Int) == 0))) && ((t28.2.2.2.1 : Int) == 0))), (2, .bool false), (3, .pointer (some ⟨g5, 0, none⟩)), (4, .pointer (some ⟨g6, 0, none⟩)), (18, .int .i64 t28.2.2.2.2.1), (19, .int .i64 t28.2.2.2.2.2.1), (21, .pointer (some ⟨g30, 0, none⟩)), (22, .int .i64 x31)]) 3 (fun K hK => ?_) ?_
                          · cases b45
                            · refine SyL.skip rfl rfl rfl ?_
                              refine SyL.skip rfl rfl rfl ?_
                              refine SyL.x (x_pickF rfl rfl rfl) rfl rfl rfl ?_
                              refine SyL.nil ?_
                              exact SyP.to hK ⟨lk_andF hb45 rfl, rfl, rfl, rfl, rfl, rfl, rfl, rfl, trivial⟩
                            · refine SyL.x (x_move (.inl rfl) rfl) rfl rfl rfl ?_
                              refine SyL.x (x_cmp rfl rfl rfl rfl) rfl rfl rfl ?_
                              refine SyL.x (x_pickT rfl rfl rfl) rfl rfl rfl ?_
                              refine SyL.nil ?_
                              exact SyP.to hK ⟨lk_andT hb45 rfl rfl, rfl, rfl, rfl, rfl, rfl, rfl, rfl, trivial⟩
                          · refine SyL.x (x_move (.inl rfl) rfl) rfl rfl rfl ?_
                            refine SyL.boolAt (d := 254) rfl fun b46 hb46 => ?_
                            refine SyL.join (Fr2 := [(259, .bool ((((((((((((((((t16.2.2.2.2.2.2.2 == t10.2.2.2.2.2.2.2) && (((!t16.2.2.2.2.2.2.2) || ((((((t16.2.1 : Int) == 0) && ((t16.2.2.1 : Int) == 0))) && ((t16.2.2.2.2.2.1 : Int) == (wrap64 ((wrap64 (t2.2.2.2.2.2.1 + t2.2.1)) + t2.2.2.1))))))))) && (!t20.2.2.2.2.2.2.2))) && (t24.2.2.2.2.2.2.2 == t10.2.2.2.2.2.2.2))) && (((!t24.2.2.2.2.2.2.2) || ((((t24.2.2.2.2.2.2.1 : Int) == (wrap64 (t2.2.2.2.2.2.2 + t2.2.2.2.1))) && ((t24.2.2.1 : Int) == t2.2.1))))))) && t28.2.2.2.2.2.2)) && ((t28.2.2.1 : Int) == 0))) && ((t28.2.2.2.1 : Int) == 0))) && ((t28.2.2.2.2.1 : Int) == t2.2.2.2.1))), (2, .bool false), (3, .pointer (some ⟨g5, 0, none⟩)), (19, .int .i64 t28.2.2.2.2.2.1), (21, .pointer (some ⟨g30, 0, none⟩)), (22, .int .i64 x31)]) 5 (fun K hK => ?_) ?_
                            · cases b46
                              · refine SyL.skip rfl rfl rfl ?_
                                refine SyL.skip rfl rfl rfl ?_
                                refine SyL.skip rfl rfl rfl ?_
                                refine SyL.skip rfl rfl rfl ?_
                                refine SyL.x (x_pickF rfl rfl rfl) rfl rfl rfl ?_
                                refine SyL.nil ?_
                                exact SyP.to hK ⟨lk_andF hb46 rfl, rfl, rfl, rfl, rfl, rfl, trivial⟩
                              · refine SyL.x (x_move (.inl rfl) rfl) rfl rfl rfl ?_
                                refine SyL.x (x_fieldAddr (m := 2) rfl rfl fo33_2 rfl) rfl rfl rfl ?_
                                refine SyL.x (x_load1 (i := 6) rfl rfl rfl rfl one3 rfl) rfl rfl rfl ?_
                                refine SyL.x (x_cmp rfl rfl rfl rfl) rfl rfl rfl ?_
                                refine SyL.x (x_pickT rfl rfl rfl) rfl rfl rfl ?_
                                refine SyL.nil ?_
                                exact SyP.to hK ⟨lk_andT hb46 rfl rfl, rfl, rfl, rfl, rfl, rfl, trivial⟩
                            · refine SyL.x (x_move (.inl rfl) rfl) rfl rfl rfl ?_
                              refine SyL.boolAt (d := 260) rfl fun b47 hb47 => ?_
                              refine SyL.join (Fr2 := [(263, .bool ((((((((((((((((((t16.2.2.2.2.2.2.2 == t10.2.2.2.2.2.2.2) && (((!t16.2.2.2.2.2.2.2) || ((((((t16.2.1 : Int) == 0) && ((t16.2.2.1 : Int) == 0))) && ((t16.2.2.2.2.2.1 : Int) == (wrap64 ((wrap64 (t2.2.2.2.2.2.1 + t2.2.1)) + t2.2.2.1))))))))) && (!t20.2.2.2.2.2.2.2))) && (t24.2.2.2.2.2.2.2 == t10.2.2.2.2.2.2.2))) && (((!t24.2.2.2.2.2.2.2) || ((((t24.2.2.2.2.2.2.1 : Int) == (wrap64 (t2.2.2.2.2.2.2 + t2.2.2.2.1))) && ((t24.2.2.1 : Int) == t2.2.1))))))) && t28.2.2.2.2.2.2)) && ((t28.2.2.1 : Int) == 0))) && ((t28.2.2.2.1 : Int) == 0))) && ((t28.2.2.2.2.1 : Int) == t2.2.2.2.1))) && ((t28.2.2.2.2.2.1 : Int) == 0))), (2, .bool false), (3, .pointer (some ⟨g5, 0, none⟩)), (21, .pointer (some ⟨g30, 0, none⟩)), (22, .int .i64 x31)]) 3 (fun K hK => ?_) ?_
                              · cases b47
                                · refine SyL.skip rfl rfl rfl ?_
                                  refine SyL.skip rfl rfl rfl ?_
                                  refine SyL.x (x_pickF rfl rfl rfl) rfl rfl rfl ?_
                                  refine SyL.nil ?_
                                  exact SyP.to hK ⟨lk_andF hb47 rfl, rfl, rfl, rfl, rfl, trivial⟩
                                · refine SyL.x (x_move (.inl rfl) rfl) rfl rfl rfl ?_
                                  refine SyL.x (x_cmp rfl rfl rfl rfl) rfl rfl rfl ?_
                                  refine SyL.x (x_pickT rfl rfl rfl) rfl rfl rfl ?_
                                  refine SyL.nil ?_
                                  exact SyP.to hK ⟨lk_andT hb47 rfl rfl, rfl, rfl, rfl, rfl, trivial⟩
                              · refine SyL.x (x_move (.inl rfl) rfl) rfl rfl rfl ?_
                                refine SyL.boolAt (d := 264) rfl fun b48 hb48 => ?_
                                cases b48
                                · replace h := iteF hb48 h
                                  refine SyL.skip rfl rfl rfl ?_
                                  refine SyL.skip rfl rfl rfl ?_
                                  refine SyL.skip rfl rfl rfl ?_
                                  refine SyL.x (x_pickF rfl rfl rfl) rfl rfl rfl ?_
                                  refine SyL.x (x_move (.inl rfl) rfl) rfl rfl rfl ?_
                                  refine SyL.skip rfl rfl rfl ?_
                                  refine SyL.skip rfl rfl rfl ?_
                                  refine SyL.skip rfl rfl rfl ?_
                                  refine SyL.skip rfl rfl rfl ?_
                                  refine SyL.x (x_pickF rfl rfl rfl) rfl rfl rfl ?_
                                  refine SyL.x (x_move (.inr rfl) rfl) rfl rfl rfl ?_
                                  refine SyL.nil ?_
                                  refine SyP.seqN ?_
                                  refine SyC.ret ?_
                                  refine SyP.ret Try.results4 (.cons (resV_tmp rfl) .nil) fun w hw => ?_
                                  obtain rfl := Option.some.inj h
                                  exact ⟨rfl, hw.below⟩
                                · replace h := iteT hb48 h
                                  refine SyL.x (x_loadW (i := 0) rfl rfl rfl rfl agg35) rfl rfl rfl ?_
                                  obtain ⟨t49, ht49, h⟩ := bindS h
                                  refine SyL.call0 (vs := [_]) rfl rfl cl15 rfl rfl rfl (fun w hw => impl_BookOk.calls _ _ _ _ _ _ _ _ _ _ w (hw.rd 4 rfl) (hw.rl 4 rfl) ht49) ?_
                                  refine SyL.x (x_not rfl rfl) rfl rfl rfl ?_
                                  refine SyL.x (x_pickT rfl rfl rfl) rfl rfl rfl ?_
                                  refine SyL.x (x_move (.inl rfl) rfl) rfl rfl rfl ?_
                                  cases t49
                                  · replace h := iteF rfl h
                                    refine SyL.x (x_loadW (i := 7) rfl rfl rfl rfl agg35) rfl rfl rfl ?_
                                    obtain ⟨t50, ht50, h⟩ := bindS h
                                    refine SyL.call0 (vs := [_]) rfl rfl cl22 rfl rfl rfl (fun w hw => impl_DaysIn.calls k _ _ _ _ _ _ _ _ _ _ w (hw.rd 4 rfl) (hw.rl 4 rfl) ht50) ?_
                                    refine SyL.x (x_move (.inl rfl) rfl) rfl rfl rfl ?_
                                    refine SyL.x (x_cmp rfl rfl rfl rfl) rfl rfl rfl ?_
                                    refine SyL.x (x_pickT rfl rfl rfl) rfl rfl rfl ?_
                                    refine SyL.x (x_move (.inr rfl) rfl) rfl rfl rfl ?_
                                    refine SyL.nil ?_
                                    refine SyP.seqN ?_
                                    refine SyC.ret ?_
                                    refine SyP.ret Try.results4 (.cons (resV_tmp rfl) .nil) fun w hw => ?_
                                    obtain rfl := Option.some.inj h
                                    exact ⟨rfl, hw.below⟩
                                  · replace h := iteT rfl h
                                    refine SyL.skip rfl rfl rfl ?_
                                    refine SyL.skip rfl rfl rfl ?_
                                    refine SyL.skip rfl rfl rfl ?_
                                    refine SyL.skip rfl rfl rfl ?_
                                    refine SyL.x (x_pickF rfl rfl rfl) rfl rfl rfl ?_
                                    refine SyL.x (x_move (.inr rfl) rfl) rfl rfl rfl ?_
                                    refine SyL.nil ?_
                                    refine SyP.seqN ?_
                                    refine SyC.ret ?_
                                    refine SyP.ret Try.results4 (.cons (resV_tmp rfl) .nil) fun w hw => ?_
                                    obtain rfl := Option.some.inj h
                                    exact ⟨rfl, hw.below⟩
            · replace h := iteT hb33 h
              refine SyC.condT rfl ?_
              refine SyC.skip ?_
              refine SyP.seqN ?_
              refine SyC.seq ?_
              refine SyC.block ?_
              refine SyC.region ?_
              refine SyL.x (x_move (.inl rfl) rfl) rfl rfl rfl ?_
              refine SyL.x (x_fieldAddr (m := 0) rfl rfl fo35_0 rfl) rfl rfl rfl ?_
              refine SyL.x (x_load1 (i := 7) rfl rfl rfl rfl one31 rfl) rfl rfl rfl ?_
              refine SyL.x (x_move (.inl rfl) rfl) rfl rfl rfl ?_
              obtain ⟨hp51, h⟩ := limS h
              obtain ⟨gp51, h⟩ := limS h
              refine SyL.get (p := ∃ ad, A3 = some ad) (fun w hw => by obtain ⟨ad', e', _⟩ := at_T54 (hw.rd 4 rfl) x32 hp51 gp51; exact ⟨ad', e'⟩) ?_
              rintro ⟨ad52, rfl⟩
              refine SyL.x (x_idx rfl rfl rfl hp51 gp51 Try.underlying31 size54) rfl rfl rfl ?_
              refine SyL.x (x_fieldAddrG rfl rfl fo54_0) rfl rfl rfl ?_
              refine SyL.x (x_loadC rfl rfl one3 (fun w hw => by obtain ⟨ad', e', hx0, hx1⟩ := at_T54 (hw.rd 4 rfl) x32 hp51 gp51; cases e'; exact hx0)) rfl rfl rfl ?_
              refine SyL.x (x_cmp rfl rfl rfl rfl) rfl rfl rfl ?_
              obtain ⟨t53, ht53, h⟩ := bindS h
              refine SyL.callD (vs := [_]) rfl rfl cl21 rfl rfl rfl (fun w hw => laws_btoi.calls _ _ w  ht53) ?_
              refine SyL.x (x_arith64 rfl rfl rfl rfl) rfl rfl rfl ?_
              refine SyL.x (x_move (.inr rfl) rfl) rfl rfl rfl ?_
              refine SyL.nil ?_
              refine SyP.blockN ?_
              refine SyP.seqN ?_
              refine SyC.region ?_
              refine SyL.x (x_move (.inl rfl) rfl) rfl rfl rfl ?_
              refine SyL.x (x_arith64 rfl rfl rfl rfl) rfl rfl rfl ?_
              refine SyL.x (x_move (.inr rfl) rfl) rfl rfl rfl ?_
              refine SyL.nil ?_
              exact SyP.again (k, wrap64 (x31 + t53), wrap64 (x32 + 1)) ⟨h, Nat.lt_succ_self _⟩ ⟨rfl, rfl, rfl, rfl, rfl, rfl, rfl, rfl, rfl, rfl, rfl, rfl, rfl, rfl, rfl, rfl, rfl, trivial⟩ rfl rfl
          · replace h := iteT hb15 h
            refine SyC.condT rfl ?_
            refine SyC.seq ?_
            refine SyC.region ?_
            refine SyL.x (x_loadW (i := 0) rfl rfl rfl rfl agg35) rfl rfl rfl ?_
            obtain ⟨t54, ht54, h⟩ := bindS h
            refine SyL.call1 (vs := [_]) rfl rfl cl19 rfl rfl rfl (fun w hw => impl_Strike.calls k _ _ _ _ _ _ _ _ _ _ _ _ _ _ _ _ _ w (hw.rd 0 rfl) (hw.rl 0 rfl) ht54) fun A55 c56 => ?_
            refine SyL.x (x_move (.inl rfl) rfl) rfl rfl rfl ?_
            refine SyL.x (x_extract rfl rfl rfl) rfl rfl rfl ?_
            refine SyL.x (x_extract rfl rfl rfl) rfl rfl rfl ?_
            refine SyL.alloc rfl zero35 rfl rfl rfl fun g57 => ?_
            refine SyL.storeW (i := 0) rfl rfl rfl rfl rfl rfl size35 rfl rfl rfl rfl rfl ?_
            refine SyL.x (x_move (.inr rfl) rfl) rfl rfl rfl ?_
            refine SyL.nil ?_
            refine SyP.seqN ?_
            refine SyC.seq ?_
            refine SyC.region ?_
            refine SyL.x (x_fieldAddr (m := 1) rfl rfl fo35_1 rfl) rfl rfl rfl ?_
            refine SyL.x (x_fieldAddr (m := 1) rfl rfl fo33_0 rfl) rfl rfl rfl ?_
            refine SyL.x (x_load1 (i := 1) rfl rfl rfl rfl one3 rfl) rfl rfl rfl ?_
            refine SyL.x (x_fieldAddr (m := 0) rfl rfl fo33_0 rfl) rfl rfl rfl ?_
            refine SyL.x (x_load1 (i := 2) rfl rfl rfl rfl one3 rfl) rfl rfl rfl ?_
            refine SyL.x (x_move (.inl rfl) rfl) rfl rfl rfl ?_
            refine SyL.x (x_arith64 rfl rfl rfl rfl) rfl rfl rfl ?_
            refine SyL.x (x_cmp rfl rfl rfl rfl) rfl rfl rfl ?_
            refine SyL.x (x_move (.inl rfl) rfl) rfl rfl rfl ?_
            refine SyL.boolAt (d := 82) rfl fun b58 hb58 => ?_
            refine SyL.join (Fr2 := [(90, .bool (((t10.2.1 : Int) != (wrap64 (t2.2.1 + (Int.tmod t9 50)))) || ((t10.2.2.2.2.1 : Int) != (wrap64 (t2.2.2.2.2.1 + (Int.tmod t9 50)))))), (2, .bool false), (3, .pointer (some ⟨g5, 0, none⟩)), (4, .pointer (some ⟨g6, 0, none⟩)), (7, .bool t10.2.2.2.2.2.2.2), (8, .pointer (some ⟨g57, 0, none⟩)), (9, .bool t54.2.2.2.2.2.2.2)]) 8 (fun K hK => ?_) ?_
            · cases b58
              · refine SyL.x (x_fieldAddr (m := 4) rfl rfl fo35_2 rfl) rfl rfl rfl ?_
                refine SyL.x (x_load1 (i := 1) rfl rfl rfl rfl one3 rfl) rfl rfl rfl ?_
                refine SyL.x (x_fieldAddr (m := 4) rfl rfl fo35_2 rfl) rfl rfl rfl ?_
                refine SyL.x (x_load1 (i := 3) rfl rfl rfl rfl one3 rfl) rfl rfl rfl ?_
                refine SyL.x (x_move (.inl rfl) rfl) rfl rfl rfl ?_
                refine SyL.x (x_arith64 rfl rfl rfl rfl) rfl rfl rfl ?_
                refine SyL.x (x_cmp rfl rfl rfl rfl) rfl rfl rfl ?_
                refine SyL.x (x_pickF rfl rfl rfl) rfl rfl rfl ?_
                refine SyL.nil ?_
                exact SyP.to hK ⟨lk_orF hb58 rfl rfl, rfl, rfl, rfl, rfl, rfl, rfl, trivial⟩
              · refine SyL.skip rfl rfl rfl ?_
                refine SyL.skip rfl rfl rfl ?_
                refine SyL.skip rfl rfl rfl ?_
                refine SyL.skip rfl rfl rfl ?_
                refine SyL.skip rfl rfl rfl ?_
                refine SyL.skip rfl rfl rfl ?_
                refine SyL.skip rfl rfl rfl ?_
                refine SyL.x (x_pickT rfl rfl rfl) rfl rfl rfl ?_
                refine SyL.nil ?_
                exact SyP.to hK ⟨lk_orT hb58 rfl, rfl, rfl, rfl, rfl, rfl, rfl, trivial⟩
            · refine SyL.x (x_move (.inl rfl) rfl) rfl rfl rfl ?_
              refine SyL.boolAt (d := 91) rfl fun b59 hb59 => ?_
              refine SyL.join (Fr2 := [(94, .bool (((((t10.2.1 : Int) != (wrap64 (t2.2.1 + (Int.tmod t9 50)))) || ((t10.2.2.2.2.1 : Int) != (wrap64 (t2.2.2.2.2.1 + (Int.tmod t9 50)))))) || (!t54.2.2.2.2.2.2.2))), (2, .bool false), (3, .pointer (some ⟨g5, 0, none⟩)), (4, .pointer (some ⟨g6, 0, none⟩)), (7, .bool t10.2.2.2.2.2.2.2), (8, .pointer (some ⟨g57, 0, none⟩))]) 3 (fun K hK => ?_) ?_
              · cases b59
                · refine SyL.x (x_move (.inl rfl) rfl) rfl rfl rfl ?_
                  refine SyL.x (x_not rfl rfl) rfl rfl rfl ?_
                  refine SyL.x (x_pickF rfl rfl rfl) rfl rfl rfl ?_
                  refine SyL.nil ?_
                  exact SyP.to hK ⟨lk_orF hb59 rfl rfl, rfl, rfl, rfl, rfl, rfl, trivial⟩
                · refine SyL.skip rfl rfl rfl ?_
                  refine SyL.skip rfl rfl rfl ?_
                  refine SyL.x (x_pickT rfl rfl rfl) rfl rfl rfl ?_
                  refine SyL.nil ?_
                  exact SyP.to hK ⟨lk_orT hb59 rfl, rfl, rfl, rfl, rfl, rfl, trivial⟩
              · refine SyL.x (x_move (.inl rfl) rfl) rfl rfl rfl ?_
                refine SyL.boolAt (d := 95) rfl fun b60 hb60 => ?_
                refine SyL.join (Fr2 := [(100, .bool (((((((t10.2.1 : Int) != (wrap64 (t2.2.1 + (Int.tmod t9 50)))) || ((t10.2.2.2.2.1 : Int) != (wrap64 (t2.2.2.2.2.1 + (Int.tmod t9 50)))))) || (!t54.2.2.2.2.2.2.2))) || (!(t54.2.1 == t2.2.1 && (t54.2.2.1 == t2.2.2.1 && (t54.2.2.2.1 == t2.2.2.2.1)))))), (2, .bool false), (3, .pointer (some ⟨g5, 0, none⟩)), (4, .pointer (some ⟨g6, 0, none⟩)), (7, .bool t10.2.2.2.2.2.2.2), (8, .pointer (some ⟨g57, 0, none⟩))]) 5 (fun K hK => ?_) ?_
                · cases b60
                  · refine SyL.x (x_fieldAddr (m := 1) rfl rfl fo35_1 rfl) rfl rfl rfl ?_
                    refine SyL.x (x_loadA (i := 0) (mid := [.int .i64 t54.2.1, .int .i64 t54.2.2.1, .int .i64 t54.2.2.2.1]) rfl rfl rfl rfl agg33 rfl rfl) rfl rfl rfl ?_
                    refine SyL.x (x_loadW (i := 2) rfl rfl rfl rfl agg33) rfl rfl rfl ?_
                    refine SyL.x (x_neS rfl rfl rfl eqg33 (fun w => eqA33 _ w _ _ _ _ _ _)) rfl rfl rfl ?_
                    refine SyL.x (x_pickF rfl rfl rfl) rfl rfl rfl ?_
                    refine SyL.nil ?_
                    exact SyP.to hK ⟨lk_orF hb60 rfl rfl, rfl, rfl, rfl, rfl, rfl, trivial⟩
                  · refine SyL.skip rfl rfl rfl ?_
                    refine SyL.skip rfl rfl rfl ?_
                    refine SyL.skip rfl rfl rfl ?_
                    refine SyL.skip rfl rfl rfl ?_
                    refine SyL.x (x_pickT rfl rfl rfl) rfl rfl rfl ?_
                    refine SyL.nil ?_
                    exact SyP.to hK ⟨lk_orT hb60 rfl, rfl, rfl, rfl, rfl, rfl, trivial⟩
                · refine SyL.x (x_move (.inl rfl) rfl) rfl rfl rfl ?_
                  refine SyL.boolAt (d := 101) rfl fun b61 hb61 => ?_
                  refine SyL.join (Fr2 := [(107, .bool (((((((((t10.2.1 : Int) != (wrap64 (t2.2.1 + (Int.tmod t9 50)))) || ((t10.2.2.2.2.1 : Int) != (wrap64 (t2.2.2.2.2.1 + (Int.tmod t9 50)))))) || (!t54.2.2.2.2.2.2.2))) || (!(t54.2.1 == t2.2.1 && (t54.2.2.1 == t2.2.2.1 && (t54.2.2.2.1 == t2.2.2.2.1)))))) || ((t54.2.2.2.2.1 : Int) != t2.2.2.2.2.1))), (2, .bool false), (3, .pointer (some ⟨g5, 0, none⟩)), (4, .pointer (some ⟨g6, 0, none⟩)), (7, .bool t10.2.2.2.2.2.2.2), (8, .pointer (some ⟨g57, 0, none⟩))]) 6 (fun K hK => ?_) ?_
                  · cases b61
                    · refine SyL.x (x_fieldAddr (m := 4) rfl rfl fo35_2 rfl) rfl rfl rfl ?_
                      refine SyL.x (x_load1 (i := 0) rfl rfl rfl rfl one3 rfl) rfl rfl rfl ?_
                      refine SyL.x (x_fieldAddr (m := 4) rfl rfl fo35_2 rfl) rfl rfl rfl ?_
                      refine SyL.x (x_load1 (i := 3) rfl rfl rfl rfl one3 rfl) rfl rfl rfl ?_
                      refine SyL.x (x_cmp rfl rfl rfl rfl) rfl rfl rfl ?_
                      refine SyL.x (x_pickF rfl rfl rfl) rfl rfl rfl ?_
                      refine SyL.nil ?_
                      exact SyP.to hK ⟨lk_orF hb61 rfl rfl, rfl, rfl, rfl, rfl, rfl, trivial⟩
                    · refine SyL.skip rfl rfl rfl ?_
                      refine SyL.skip rfl rfl rfl ?_
                      refine SyL.skip rfl rfl rfl ?_
                      refine SyL.skip rfl rfl rfl ?_
                      refine SyL.skip rfl rfl rfl ?_
                      refine SyL.x (x_pickT rfl rfl rfl) rfl rfl rfl ?_
                      refine SyL.nil ?_
                      exact SyP.to hK ⟨lk_orT hb61 rfl, rfl, rfl, rfl, rfl, rfl, trivial⟩
                  · refine SyL.x (x_move (.inl rfl) rfl) rfl rfl rfl ?_
                    refine SyL.boolAt (d := 108) rfl fun b62 hb62 => ?_
                    refine SyL.join (Fr2 := [(116, .bool (((((((((((t10.2.1 : Int) != (wrap64 (t2.2.1 + (Int.tmod t9 50)))) || ((t10.2.2.2.2.1 : Int) != (wrap64 (t2.2.2.2.2.1 + (Int.tmod t9 50)))))) || (!t54.2.2.2.2.2.2.2))) || (!(t54.2.1 == t2.2.1 && (t54.2.2.1 == t2.2.2.1 && (t54.2.2.2.1 == t2.2.2.2.1)))))) || ((t54.2.2.2.2.1 : Int) != t2.2.2.2.2.1))) || ((((t54.1.length : Int)) : Int) != ((t2.1.length : Int))))), (2, .bool false), (3, .pointer (some ⟨g5, 0, none⟩)), (4, .pointer (some ⟨g6, 0, none⟩)), (7, .bool t10.2.2.2.2.2.2.2)]) 8 (fun K hK => ?_) ?_
                    · cases b62
                      · refine SyL.x (x_fieldAddr (m := 0) rfl rfl fo35_0 rfl) rfl rfl rfl ?_
                        refine SyL.x (x_load1 (i := 0) rfl rfl rfl rfl one31 rfl) rfl rfl rfl ?_
                        refine SyL.x (x_len rfl rfl Try.underlying31) rfl rfl rfl ?_
                        refine SyL.x (x_fieldAddr (m := 0) rfl rfl fo35_0 rfl) rfl rfl rfl ?_
                        refine SyL.x (x_load1 (i := 3) rfl rfl rfl rfl one31 rfl) rfl rfl rfl ?_
                        refine SyL.x (x_len rfl rfl Try.underlying31) rfl rfl rfl ?_
                        refine SyL.x (x_cmp rfl rfl rfl rfl) rfl rfl rfl ?_
                        refine SyL.x (x_pickF rfl rfl rfl) rfl rfl rfl ?_
                        refine SyL.nil ?_
                        exact SyP.to hK ⟨lk_orF hb62 rfl rfl, rfl, rfl, rfl, rfl, trivial⟩
                      · refine SyL.skip rfl rfl rfl ?_
                        refine SyL.skip rfl rfl rfl ?_
                        refine SyL.skip rfl rfl rfl ?_
                        refine SyL.skip rfl rfl rfl ?_
                        refine SyL.skip rfl rfl rfl ?_
                        refine SyL.skip rfl rfl rfl ?_
                        refine SyL.skip rfl rfl rfl ?_
                        refine SyL.x (x_pickT rfl rfl rfl) rfl rfl rfl ?_
                        refine SyL.nil ?_
                        exact SyP.to hK ⟨lk_orT hb62 rfl, rfl, rfl, rfl, rfl, trivial⟩
                    · refine SyL.nil ?_
                      refine SyP.seqN ?_
                      refine SyC.boolAt (d := 116) rfl fun b63 hb63 => ?_
                      cases b63
                      · replace h := iteF hb63 h
                        refine SyC.condF rfl ?_
                        refine SyC.skip ?_
                        refine SyP.seqN ?_
                        refine SyC.seq ?_
                        refine SyC.region ?_
                        refine SyL.x (x_loadW (i := 3) rfl rfl rfl rfl agg35) rfl rfl rfl ?_
                        refine SyL.x (x_fieldAddr (m := 0) rfl rfl fo33_0 rfl) rfl rfl rfl ?_
                        refine SyL.x (x_load1 (i := 2) rfl rfl rfl rfl one3 rfl) rfl rfl rfl ?_
                        refine SyL.x (x_fieldAddr (m := 1) rfl rfl fo33_1 rfl) rfl rfl rfl ?_
                        refine SyL.x (x_load1 (i := 2) rfl rfl rfl rfl one3 rfl) rfl rfl rfl ?_
                        refine SyL.x (x_arith64 rfl rfl rfl rfl) rfl rfl rfl ?_
                        refine SyL.x (x_build (us := [(0, .int .i64 2), (1, .int .i64 (wrap64 (t2.2.1 + t2.2.2.1)))]) (cells := #[.int .i64 2, .int .i64 (wrap64 (t2.2.1 + t2.2.2.1))]) rfl bt54 rfl rfl) rfl rfl rfl ?_
                        obtain ⟨t64, ht64, h⟩ := bindS h
                        refine SyL.call1 (vs := [_, _]) rfl rfl cl18 rfl rfl rfl (fun w hw => impl_Enter.calls _ _ _ _ _ _ _ _ _ _ _ _ _ _ _ _ _ _ _ w (hw.rd 2 rfl) (hw.rl 2 rfl) ht64) fun A65 c66 => ?_
                        refine SyL.x (x_move (.inl rfl) rfl) rfl rfl rfl ?_
                        refine SyL.x (x_extract rfl rfl rfl) rfl rfl rfl ?_
                        refine SyL.x (x_extract rfl rfl rfl) rfl rfl rfl ?_
                        refine SyL.alloc rfl zero35 rfl rfl rfl fun g67 => ?_
                        refine SyL.storeW (i := 0) rfl rfl rfl rfl rfl rfl size35 rfl rfl rfl rfl rfl ?_
                        refine SyL.x (x_move (.inr rfl) rfl) rfl rfl rfl ?_
                        refine SyL.nil ?_
                        refine SyP.seqN ?_
                        refine SyC.seq ?_
                        refine SyC.region ?_
                        refine SyL.x (x_loadW (i := 4) rfl rfl rfl rfl agg35) rfl rfl rfl ?_
                        refine SyL.x (x_fieldAddr (m := 0) rfl rfl fo33_0 rfl) rfl rfl rfl ?_
                        refine SyL.x (x_load1 (i := 3) rfl rfl rfl rfl one3 rfl) rfl rfl rfl ?_
                        refine SyL.x (x_fieldAddr (m := 1) rfl rfl fo33_1 rfl) rfl rfl rfl ?_
                        refine SyL.x (x_load1 (i := 3) rfl rfl rfl rfl one3 rfl) rfl rfl rfl ?_
                        refine SyL.x (x_arith64 rfl rfl rfl rfl) rfl rfl rfl ?_
                        refine SyL.x (x_arith64 rfl rfl rfl rfl) rfl rfl rfl ?_
                        refine SyL.x (x_build (us := [(0, .int .i64 2), (1, .int .i64 (wrap64 ((wrap64 (t2.2.1 + t2.2.2.1)) + 1)))]) (cells := #[.int .i64 2, .int .i64 (wrap64 ((wrap64 (t2.2.1 + t2.2.2.1)) + 1))]) rfl bt54 rfl rfl) rfl rfl rfl ?_
                        obtain ⟨t68, ht68, h⟩ := bindS h
                        refine SyL.call1 (vs := [_, _]) rfl rfl cl18 rfl rfl rfl (fun w hw => impl_Enter.calls _ _ _ _ _ _ _ _ _ _ _ _ _ _ _ _ _ _ _ w (hw.rd 3 rfl) (hw.rl 3 rfl) ht68) fun A69 c70 => ?_
                        refine SyL.x (x_move (.inl rfl) rfl) rfl rfl rfl ?_
                        refine SyL.x (x_extract rfl rfl rfl) rfl rfl rfl ?_
                        refine SyL.x (x_extract rfl rfl rfl) rfl rfl rfl ?_
                        refine SyL.alloc rfl zero35 rfl rfl rfl fun g71 => ?_
                        refine SyL.storeW (i := 0) rfl rfl rfl rfl rfl rfl size35 rfl rfl rfl rfl rfl ?_
                        refine SyL.x (x_move (.inr rfl) rfl) rfl rfl rfl ?_
                        refine SyL.nil ?_
                        refine SyP.seqN ?_
                        refine SyC.seq ?_
                        refine SyC.region ?_
                        refine SyL.x (x_loadW (i := 5) rfl rfl rfl rfl agg35) rfl rfl rfl ?_
                        refine SyL.x (x_build (us := [(0, .int .i64 4)]) (cells := #[.int .i64 4, .int .i64 0]) rfl bt54 rfl rfl) rfl rfl rfl ?_
                        obtain ⟨t72, ht72, h⟩ := bindS h
                        refine SyL.call1 (vs := [_, _]) rfl rfl cl18 rfl rfl rfl (fun w hw => impl_Enter.calls _ _ _ _ _ _ _ _ _ _ _ _ _ _ _ _ _ _ _ w (hw.rd 4 rfl) (hw.rl 4 rfl) ht72) fun A73 c74 => ?_
                        refine SyL.x (x_move (.inl rfl) rfl) rfl rfl rfl ?_
                        refine SyL.x (x_extract rfl rfl rfl) rfl rfl rfl ?_
                        refine SyL.x (x_extract rfl rfl rfl) rfl rfl rfl ?_
                        refine SyL.alloc rfl zero35 rfl rfl rfl fun g75 => ?_
                        refine SyL.storeW (i := 0) rfl rfl rfl rfl rfl rfl size35 rfl rfl rfl rfl rfl ?_
                        refine SyL.x (x_move (.inr rfl) rfl) rfl rfl rfl ?_
                        refine SyL.nil ?_
                        refine SyP.seqN ?_
                        refine SyC.seq ?_
                        refine SyC.region ?_
                        refine SyL.x (x_loadW (i := 5) rfl rfl rfl rfl agg33) rfl rfl rfl ?_
                        refine SyL.x (x_fieldAddr (m := 2) rfl rfl fo33_2 rfl) rfl rfl rfl ?_
                        refine SyL.x (x_load1 (i := 5) rfl rfl rfl rfl one3 rfl) rfl rfl rfl ?_
                        refine SyL.x (x_build (us := [(0, .int .i64 3), (1, .int .i64 t2.2.2.2.1)]) (cells := #[.int .i64 3, .int .i64 t2.2.2.2.1]) rfl bt54 rfl rfl) rfl rfl rfl ?_
                        obtain ⟨t76, ht76, h⟩ := bindS h
                        refine SyL.call0 (vs := [_, _]) rfl rfl cl20 rfl rfl rfl (fun w hw => impl_EventOn.calls _ _ _ _ _ _ _ _ _ _ _ _ w  ht76) ?_
                        refine SyL.x (x_move (.inl rfl) rfl) rfl rfl rfl ?_
                        refine SyL.x (x_extract rfl rfl rfl) rfl rfl rfl ?_
                        refine SyL.x (x_extract rfl rfl rfl) rfl rfl rfl ?_
                        refine SyL.x (x_extract rfl rfl rfl) rfl rfl rfl ?_
                        refine SyL.x (x_extract rfl rfl rfl) rfl rfl rfl ?_
                        refine SyL.x (x_extract rfl rfl rfl) rfl rfl rfl ?_
                        refine SyL.alloc rfl zero33 rfl rfl rfl fun g77 => ?_
                        refine SyL.storeW (i := 0) rfl rfl rfl rfl rfl rfl size33 rfl rfl rfl rfl rfl ?_
                        refine SyL.x (x_move (.inr rfl) rfl) rfl rfl rfl ?_
                        refine SyL.x (x_move (.inr rfl) rfl) rfl rfl rfl ?_
                        refine SyL.x (x_move (.inr rfl) rfl) rfl rfl rfl ?_
                        refine SyL.x (x_move (.inr rfl) rfl) rfl rfl rfl ?_
                        refine SyL.nil ?_
                        refine SyP.seqN ?_
                        refine SyC.seq ?_
                        refine SyC.region ?_
                        refine SyL.x (x_loadW (i := 7) rfl rfl rfl rfl agg35) rfl rfl rfl ?_
                        refine SyL.alloc rfl zero35 rfl rfl rfl fun g78 => ?_
                        refine SyL.storeW (i := 0) rfl rfl rfl rfl rfl rfl size35 rfl rfl rfl rfl rfl ?_
                        refine SyL.nil ?_
                        refine SyP.seqN ?_
                        refine SyC.seq ?_
                        refine SyC.region ?_
                        refine SyL.x (x_fieldAddr (m := 4) rfl rfl fo35_2 rfl) rfl rfl rfl ?_
                        refine SyL.x (x_load1 (i := 8) rfl rfl rfl rfl one3 rfl) rfl rfl rfl ?_
                        refine SyL.x (x_arith64 rfl rfl rfl rfl) rfl rfl rfl ?_
                        refine SyL.x (x_fieldAddr (m := 4) rfl rfl fo35_2 rfl) rfl rfl rfl ?_
                        refine SyL.storeS (i := 0) (cs' := [.slice A3 t2.1.length c4, .int .i64 t2.2.1, .int .i64 t2.2.2.1, .int .i64 t2.2.2.2.1, .int .i64 (wrap64 (t2.2.2.2.2.1 + 1)), .int .i64 t2.2.2.2.2.2.1, .int .i64 t2.2.2.2.2.2.2]) rfl rfl rfl rfl rfl rfl size3 rfl rfl rfl rfl rfl rfl rfl ?_
                        refine SyL.nil ?_
                        refine SyP.seqN ?_
                        refine SyC.seq ?_
                        refine SyC.region ?_
                        refine SyL.x (x_move (.inr rfl) rfl) rfl rfl rfl ?_
                        refine SyL.nil ?_
                        refine SyP.seqN ?_
                        refine SyC.seq ?_
                        refine SyC.seq ?_
                        refine SyC.region ?_
                        refine SyL.x (x_move (.inr rfl) rfl) rfl rfl rfl ?_
                        refine SyL.nil ?_
                        refine SyP.seqN ?_
                        refine SyC.block ?_
                        refine SyC.fewer (Fr2 := [(2, .bool false), (3, .pointer (some ⟨g5, 0, none⟩)), (4, .pointer (some ⟨g6, 0, none⟩)), (7, .bool t10.2.2.2.2.2.2.2), (10, .pointer (some ⟨g67, 0, none⟩)), (11, .bool t64.2.2.2.2.2.2.2), (13, .bool t68.2.2.2.2.2.2.2), (14, .pointer (some ⟨g75, 0, none⟩)), (15, .bool t72.2.2.2.2.2.2.2), (16, .pointer (some ⟨g77, 0, none⟩)), (17, .int .i64 t76.2.2.2.1), (18, .int .i64 t76.2.2.2.2.1), (19, .int .i64 t76.2.2.2.2.2.1), (20, .bool t76.2.2.2.2.2.2), (21, .pointer (some ⟨g78, 0, none⟩)), (22, .int .i64 0), (23, .int .i64 0)]) ⟨rfl, rfl, rfl, rfl, rfl, rfl, rfl, rfl, rfl, rfl, rfl, rfl, rfl, rfl, rfl, rfl, rfl, trivial⟩ ?_
                        refine SyC.loop (X := Nat × Int × Int) (fun x => x.1) (fun x => [(2, .bool false), (3, .pointer (some ⟨g5, 0, none⟩)), (4, .pointer (some ⟨g6, 0, none⟩)), (7, .bool t10.2.2.2.2.2.2.2), (10, .pointer (some ⟨g67, 0, none⟩)), (11, .bool t64.2.2.2.2.2.2.2), (13, .bool t68.2.2.2.2.2.2.2), (14, .pointer (some ⟨g75, 0, none⟩)), (15, .bool t72.2.2.2.2.2.2.2), (16, .pointer (some ⟨g77, 0, none⟩)), (17, .int .i64 t76.2.2.2.1), (18, .int .i64 t76.2.2.2.2.1), (19, .int .i64 t76.2.2.2.2.2.1), (20, .bool t76.2.2.2.2.2.2), (21, .pointer (some ⟨g78, 0, none⟩)), (22, .int .i64 x.2.1), (23, .int .i64 x.2.2)]) (fun _ => _) (fun _ => _) (fun x => laws_FnBooks.l1 x.1 t2 t64 t10 t68 t72 t76 x.2.1 x.2.2 = some r) (k, 0, 0) h ?_
                        clear h
                        rintro ⟨k, x79, x80⟩ h
                        rcases k with _ | k
                        · exact absurd h (by simp [laws_FnBooks.l1])
                        replace h : laws_FnBooks.l1 (k + 1) t2 t64 t10 t68 t72 t76 x79 x80 = some r := h
                        rw [laws_FnBooks.l1] at h
                        refine SyC.seq ?_
                        refine SyC.seq ?_
                        refine SyC.region ?_
                        refine SyL.x (x_move (.inl rfl) rfl) rfl rfl rfl ?_
                        refine SyL.x (x_fieldAddr (m := 0) rfl rfl fo35_0 rfl) rfl rfl rfl ?_
                        refine SyL.x (x_load1 (i := 8) rfl rfl rfl rfl one31 rfl) rfl rfl rfl ?_
                        refine SyL.x (x_len rfl rfl Try.underlying31) rfl rfl rfl ?_
                        refine SyL.x (x_cmp rfl rfl rfl rfl) rfl rfl rfl ?_
                        refine SyL.nil ?_
                        refine SyP.seqN ?_
                        refine SyC.boolAt (d := 166) rfl fun b81 hb81 => ?_
                        cases b81
                        · replace h := iteF hb81 h
                          refine SyC.condF rfl ?_
                          refine SyC.exit ?_
                          refine SyP.seqE ?_
                          refine SyP.seqE ?_
                          refine SyP.blockE ?_
                          refine SyP.seqN ?_
                          refine SyC.seq ?_
                          refine SyC.region ?_
                          refine SyL.x (x_move (.inl rfl) rfl) rfl rfl rfl ?_
                          refine SyL.x (x_move (.inl rfl) rfl) rfl rfl rfl ?_
                          refine SyL.x (x_beq rfl rfl rfl (eqB4 _ _)) rfl rfl rfl ?_
                          refine SyL.x (x_move (.inl rfl) rfl) rfl rfl rfl ?_
                          refine SyL.boolAt (d := 182) rfl fun b82 hb82 => ?_
                          refine SyL.join (Fr2 := [(210, .bool ((t64.2.2.2.2.2.2.2 == t10.2.2.2.2.2.2.2) && (((!t64.2.2.2.2.2.2.2) || ((((((t64.2.1 : Int) == 0) && ((t64.2.2.1 : Int) == 0))) && ((t64.2.2.2.2.2.1 : Int) == (wrap64 ((wrap64 (t2.2.2.2.2.2.1 + t2.2.1)) + t2.2.2.1))))))))), (2, .bool false), (3, .pointer (some ⟨g5, 0, none⟩)), (4, .pointer (some ⟨g6, 0, none⟩)), (7, .bool t10.2.2.2.2.2.2.2), (13, .bool t68.2.2.2.2.2.2.2), (14, .pointer (some ⟨g75, 0, none⟩)), (15, .bool t72.2.2.2.2.2.2.2), (16, .pointer (some ⟨g77, 0, none⟩)), (17, .int .i64 t76.2.2.2.1), (18, .int .i64 t76.2.2.2.2.1), (19, .int .i64 t76.2.2.2.2.2.1), (20, .bool t76.2.2.2.2.2.2), (21, .pointer (some ⟨g78, 0, none⟩)), (22, .int .i64 x79)]) 28 (fun K hK => ?_) ?_
                          · cases b82
                            · refine SyL.skip rfl rfl rfl ?_
                              refine SyL.skip rfl rfl rfl ?_
                              refine SyL.skip rfl rfl rfl ?_
                              refine SyL.skip rfl rfl rfl ?_
                              refine SyL.skip rfl rfl rfl ?_
                              refine SyL.skip rfl rfl rfl ?_
                              refine SyL.skip rfl rfl rfl ?_
                              refine SyL.skip rfl rfl rfl ?_
                              refine SyL.skip rfl rfl rfl ?_
                              refine SyL.skip rfl rfl rfl ?_
                              refine SyL.skip rfl rfl rfl ?_
                              refine SyL.skip rfl rfl rfl ?_
                              refine SyL.skip rfl rfl rfl ?_
                              refine SyL.skip rfl rfl rfl ?_
                              refine SyL.skip rfl rfl rfl ?_
                              refine SyL.skip rfl rfl rfl ?_
                              refine SyL.skip rfl rfl rfl ?_
                              refine SyL.skip rfl rfl rfl ?_
                              refine SyL.skip rfl rfl rfl ?_
                              refine SyL.skip rfl rfl rfl ?_
                              refine SyL.skip rfl rfl rfl ?_
                              refine SyL.skip rfl rfl rfl ?_
                              refine SyL.skip rfl rfl rfl ?_
                              refine SyL.skip rfl rfl rfl ?_
                              refine SyL.skip rfl rfl rfl ?_
                              refine SyL.skip rfl rfl rfl ?_
                              refine SyL.skip rfl rfl rfl ?_
                              refine SyL.x (x_pickF rfl rfl rfl) rfl rfl rfl ?_
                              refine SyL.nil ?_
                              exact SyP.to hK ⟨lk_andF hb82 rfl, rfl, rfl, rfl, rfl, rfl, rfl, rfl, rfl, rfl, rfl, rfl, rfl, rfl, rfl, trivial⟩
                            · refine SyL.x (x_move (.inl rfl) rfl) rfl rfl rfl ?_
                              refine SyL.x (x_not rfl rfl) rfl rfl rfl ?_
                              refine SyL.x (x_move (.inl rfl) rfl) rfl rfl rfl ?_
                              refine SyL.boolAt (d := 185) rfl fun b83 hb83 => ?_
                              refine SyL.join (Fr2 := [(209, .bool ((!t64.2.2.2.2.2.2.2) || ((((((t64.2.1 : Int) == 0) && ((t64.2.2.1 : Int) == 0))) && ((t64.2.2.2.2.2.1 : Int) == (wrap64 ((wrap64 (t2.2.2.2.2.2.1 + t2.2.1)) + t2.2.2.1))))))), (2, .bool false), (3, .pointer (some ⟨g5, 0, none⟩)), (4, .pointer (some ⟨g6, 0, none⟩)), (7, .bool t10.2.2.2.2.2.2.2), (13, .bool t68.2.2.2.2.2.2.2), (14, .pointer (some ⟨g75, 0, none⟩)), (15, .bool t72.2.2.2.2.2.2.2), (16, .pointer (some ⟨g77, 0, none⟩)), (17, .int .i64 t76.2.2.2.1), (18, .int .i64 t76.2.2.2.2.1), (19, .int .i64 t76.2.2.2.2.2.1), (20, .bool t76.2.2.2.2.2.2), (21, .pointer (some ⟨g78, 0, none⟩)), (22, .int .i64 x79), (182, .bool true)]) 24 (fun K hK => ?_) ?_
                              · cases b83
                                · refine SyL.x (x_fieldAddr (m := 1) rfl rfl fo35_1 rfl) rfl rfl rfl ?_
                                  refine SyL.x (x_fieldAddr (m := 1) rfl rfl fo33_0 rfl) rfl rfl rfl ?_
                                  refine SyL.x (x_load1 (i := 4) rfl rfl rfl rfl one3 rfl) rfl rfl rfl ?_
                                  refine SyL.x (x_cmp rfl rfl rfl rfl) rfl rfl rfl ?_
                                  refine SyL.x (x_move (.inl rfl) rfl) rfl rfl rfl ?_
                                  refine SyL.boolAt (d := 190) rfl fun b84 hb84 => ?_
                                  refine SyL.join (Fr2 := [(195, .bool (((t64.2.1 : Int) == 0) && ((t64.2.2.1 : Int) == 0))), (2, .bool false), (3, .pointer (some ⟨g5, 0, none⟩)), (4, .pointer (some ⟨g6, 0, none⟩)), (7, .bool t10.2.2.2.2.2.2.2), (10, .pointer (some ⟨g67, 0, none⟩)), (13, .bool t68.2.2.2.2.2.2.2), (14, .pointer (some ⟨g75, 0, none⟩)), (15, .bool t72.2.2.2.2.2.2.2), (16, .pointer (some ⟨g77, 0, none⟩)), (17, .int .i64 t76.2.2.2.1), (18, .int .i64 t76.2.2.2.2.1), (19, .int .i64 t76.2.2.2.2.2.1), (20, .bool t76.2.2.2.2.2.2), (21, .pointer (some ⟨g78, 0, none⟩)), (22, .int .i64 x79), (182, .bool true), (185, .bool false)]) 5 (fun K hK => ?_) ?_
                                  · cases b84
                                    · refine SyL.skip rfl rfl rfl ?_
                                      refine SyL.skip rfl rfl rfl ?_
                                      refine SyL.skip rfl rfl rfl ?_
                                      refine SyL.skip rfl rfl rfl ?_
                                      refine SyL.x (x_pickF rfl rfl rfl) rfl rfl rfl ?_
                                      refine SyL.nil ?_
                                      exact SyP.to hK ⟨lk_andF hb84 rfl, rfl, rfl, rfl, rfl, rfl, rfl, rfl, rfl, rfl, rfl, rfl, rfl, rfl, rfl, rfl, rfl, rfl, trivial⟩
                                    · refine SyL.x (x_fieldAddr (m := 1) rfl rfl fo35_1 rfl) rfl rfl rfl ?_
                                      refine SyL.x (x_fieldAddr (m := 2) rfl rfl fo33_1 rfl) rfl rfl rfl ?_
                                      refine SyL.x (x_load1 (i := 4) rfl rfl rfl rfl one3 rfl) rfl rfl rfl ?_
                                      refine SyL.x (x_cmp rfl rfl rfl rfl) rfl rfl rfl ?_
                                      refine SyL.x (x_pickT rfl rfl rfl) rfl rfl rfl ?_
                                      refine SyL.nil ?_
                                      exact SyP.to hK ⟨lk_andT hb84 rfl rfl, rfl, rfl, rfl, rfl, rfl, rfl, rfl, rfl, rfl, rfl, rfl, rfl, rfl, rfl, rfl, rfl, rfl, trivial⟩
                                  · refine SyL.x (x_move (.inl rfl) rfl) rfl rfl rfl ?_
                                    refine SyL.boolAt (d := 196) rfl fun b85 hb85 => ?_
                                    refine SyL.join (Fr2 := [(208, .bool (((((t64.2.1 : Int) == 0) && ((t64.2.2.1 : Int) == 0))) && ((t64.2.2.2.2.2.1 : Int) == (wrap64 ((wrap64 (t2.2.2.2.2.2.1 + t2.2.1)) + t2.2.2.1))))), (2, .bool false), (3, .pointer (some ⟨g5, 0, none⟩)), (4, .pointer (some ⟨g6, 0, none⟩)), (7, .bool t10.2.2.2.2.2.2.2), (13, .bool t68.2.2.2.2.2.2.2), (14, .pointer (some ⟨g75, 0, none⟩)), (15, .bool t72.2.2.2.2.2.2.2), (16, .pointer (some ⟨g77, 0, none⟩)), (17, .int .i64 t76.2.2.2.1), (18, .int .i64 t76.2.2.2.2.1), (19, .int .i64 t76.2.2.2.2.2.1), (20, .bool t76.2.2.2.2.2.2), (21, .pointer (some ⟨g78, 0, none⟩)), (22, .int .i64 x79), (182, .bool true), (185, .bool false)]) 12 (fun K hK => ?_) ?_
                                    · cases b85
                                      · refine SyL.skip rfl rfl rfl ?_
                                        refine SyL.skip rfl rfl rfl ?_
                                        refine SyL.skip rfl rfl rfl ?_
                                        refine SyL.skip rfl rfl rfl ?_
                                        refine SyL.skip rfl rfl rfl ?_
                                        refine SyL.skip rfl rfl rfl ?_
                                        refine SyL.skip rfl rfl rfl ?_
                                        refine SyL.skip rfl rfl rfl ?_
                                        refine SyL.skip rfl rfl rfl ?_
                                        refine SyL.skip rfl rfl rfl ?_
                                        refine SyL.skip rfl rfl rfl ?_
                                        refine SyL.x (x_pickF rfl rfl rfl) rfl rfl rfl ?_
                                        refine SyL.nil ?_
                                        exact SyP.to hK ⟨lk_andF hb85 rfl, rfl, rfl, rfl, rfl, rfl, rfl, rfl, rfl, rfl, rfl, rfl, rfl, rfl, rfl, rfl, rfl, trivial⟩
                                      · refine SyL.x (x_fieldAddr (m := 5) rfl rfl fo35_3 rfl) rfl rfl rfl ?_
                                        refine SyL.x (x_load1 (i := 4) rfl rfl rfl rfl one3 rfl) rfl rfl rfl ?_
                                        refine SyL.x (x_fieldAddr (m := 5) rfl rfl fo35_3 rfl) rfl rfl rfl ?_
                                        refine SyL.x (x_load1 (i := 8) rfl rfl rfl rfl one3 rfl) rfl rfl rfl ?_
                                        refine SyL.x (x_fieldAddr (m := 0) rfl rfl fo33_0 rfl) rfl rfl rfl ?_
                                        refine SyL.x (x_load1 (i := 7) rfl rfl rfl rfl one3 rfl) rfl rfl rfl ?_
                                        refine SyL.x (x_arith64 rfl rfl rfl rfl) rfl rfl rfl ?_
                                        refine SyL.x (x_fieldAddr (m := 1) rfl rfl fo33_1 rfl) rfl rfl rfl ?_
                                        refine SyL.x (x_load1 (i := 7) rfl rfl rfl rfl one3 rfl) rfl rfl rfl ?_
                                        refine SyL.x (x_arith64 rfl rfl rfl rfl) rfl rfl rfl ?_
                                        refine SyL.x (x_cmp rfl rfl rfl rfl) rfl rfl rfl ?_
                                        refine SyL.x (x_pickT rfl rfl rfl) rfl rfl rfl ?_
                                        refine SyL.nil ?_
                                        exact SyP.to hK ⟨lk_andT hb85 rfl rfl, rfl, rfl, rfl, rfl, rfl, rfl, rfl, rfl, rfl, rfl, rfl, rfl, rfl, rfl, rfl, rfl, trivial⟩
                                    · refine SyL.x (x_pickF rfl rfl rfl) rfl rfl rfl ?_
                                      refine SyL.nil ?_
                                      exact SyP.to hK ⟨lk_orF hb83 rfl rfl, rfl, rfl, rfl, rfl, rfl, rfl, rfl, rfl, rfl, rfl, rfl, rfl, rfl, rfl, rfl, trivial⟩
                                · refine SyL.skip rfl rfl rfl ?_
                                  refine SyL.skip rfl rfl rfl ?_
                                  refine SyL.skip rfl rfl rfl ?_
                                  refine SyL.skip rfl rfl rfl ?_
                                  refine SyL.skip rfl rfl rfl ?_
                                  refine SyL.skip rfl rfl rfl ?_
                                  refine SyL.skip rfl rfl rfl ?_
                                  refine SyL.skip rfl rfl rfl ?_
                                  refine SyL.skip rfl rfl rfl ?_
                                  refine SyL.skip rfl rfl rfl ?_
                                  refine SyL.skip rfl rfl rfl ?_
                                  refine SyL.skip rfl rfl rfl ?_
                                  refine SyL.skip rfl rfl rfl ?_
                                  refine SyL.skip rfl rfl rfl ?_
                                  refine SyL.skip rfl rfl rfl ?_
                                  refine SyL.skip rfl rfl rfl ?_
                                  refine SyL.skip rfl rfl rfl ?_
                                  refine SyL.skip rfl rfl rfl ?_
                                  refine SyL.skip rfl rfl rfl ?_
                                  refine SyL.skip rfl rfl rfl ?_
                                  refine SyL.skip rfl rfl rfl ?_
                                  refine SyL.skip rfl rfl rfl ?_
                                  refine SyL.skip rfl rfl rfl ?_
                                  refine SyL.x (x_pickT rfl rfl rfl) rfl rfl rfl ?_
                                  refine SyL.nil ?_
                                  exact SyP.to hK ⟨lk_orT hb83 rfl, rfl, rfl, rfl, rfl, rfl, rfl, rfl, rfl, rfl, rfl, rfl, rfl, rfl, rfl, rfl, trivial⟩
                              · refine SyL.x (x_pickT rfl rfl rfl) rfl rfl rfl ?_
                                refine SyL.nil ?_
                                exact SyP.to hK ⟨lk_andT hb82 rfl rfl, rfl, rfl, rfl, rfl, rfl, rfl, rfl, rfl, rfl, rfl, rfl, rfl, rfl, rfl, trivial⟩
                          · refine SyL.x (x_move (.inl rfl) rfl) rfl rfl rfl ?_
                            refine SyL.boolAt (d := 211) rfl fun b86 hb86 => ?_
                            refine SyL.join (Fr2 := [(214, .bool ((((t64.2.2.2.2.2.2.2 == t10.2.2.2.2.2.2.2) && (((!t64.2.2.2.2.2.2.2) || ((((((t64.2.1 : Int) == 0) && ((t64.2.2.1 : Int) == 0))) && ((t64.2.2.2.2.2.1 : Int) == (wrap64 ((wrap64 (t2.2.2.2.2.2.1 + t2.2.1)) + t2.2.2.1))))))))) && (!t68.2.2.2.2.2.2.2))), (2, .bool false), (3, .pointer (some ⟨g5, 0, none⟩)), (4, .pointer (some ⟨g6, 0, none⟩)), (7, .bool t10.2.2.2.2.2.2.2), (14, .pointer (some ⟨g75, 0, none⟩)), (15, .bool t72.2.2.2.2.2.2.2), (16, .pointer (some ⟨g77, 0, none⟩)), (17, .int .i64 t76.2.2.2.1), (18, .int .i64 t76.2.2.2.2.1), (19, .int .i64 t76.2.2.2.2.2.1), (20, .bool t76.2.2.2.2.2.2), (21, .pointer (some ⟨g78, 0, none⟩)), (22, .int .i64 x79)]) 3 (fun K hK => ?_) ?_
                            · cases b86
                              · refine SyL.skip rfl rfl rfl ?_
                                refine SyL.skip rfl rfl rfl ?_
                                refine SyL.x (x_pickF rfl rfl rfl) rfl rfl rfl ?_
                                refine SyL.nil ?_
                                exact SyP.to hK ⟨lk_andF hb86 rfl, rfl, rfl, rfl, rfl, rfl, rfl, rfl, rfl, rfl, rfl, rfl, rfl, rfl, trivial⟩
                              · refine SyL.x (x_move (.inl rfl) rfl) rfl rfl rfl ?_
                                refine SyL.x (x_not rfl rfl) rfl rfl rfl ?_
                                refine SyL.x (x_pickT rfl rfl rfl) rfl rfl rfl ?_
                                refine SyL.nil ?_
                                exact SyP.to hK ⟨lk_andT hb86 rfl rfl, rfl, rfl, rfl, rfl, rfl, rfl, rfl, rfl, rfl, rfl, rfl, rfl, rfl, trivial⟩
                            · refine SyL.x (x_move (.inl rfl) rfl) rfl rfl rfl ?_
                              refine SyL.boolAt (d := 215) rfl fun b87 hb87 => ?_
                              refine SyL.join (Fr2 := [(219, .bool ((((((t64.2.2.2.2.2.2.2 == t10.2.2.2.2.2.2.2) && (((!t64.2.2.2.2.2.2.2) || ((((((t64.2.1 : Int) == 0) && ((t64.2.2.1 : Int) == 0))) && ((t64.2.2.2.2.2.1 : Int) == (wrap64 ((wrap64 (t2.2.2.2.2.2.1 + t2.2.1)) + t2.2.2.1))))))))) && (!t68.2.2.2.2.2.2.2))) && (t72.2.2.2.2.2.2.2 == t10.2.2.2.2.2.2.2))), (2, .bool false), (3, .pointer (some ⟨g5, 0, none⟩)), (4, .pointer (some ⟨g6, 0, none⟩)), (14, .pointer (some ⟨g75, 0, none⟩)), (15, .bool t72.2.2.2.2.2.2.2), (16, .pointer (some ⟨g77, 0, none⟩)), (17, .int .i64 t76.2.2.2.1), (18, .int .i64 t76.2.2.2.2.1), (19, .int .i64 t76.2.2.2.2.2.1), (20, .bool t76.2.2.2.2.2.2), (21, .pointer (some ⟨g78, 0, none⟩)), (22, .int .i64 x79)]) 4 (fun K hK => ?_) ?_
                              · cases b87
                                · refine SyL.skip rfl rfl rfl ?_
                                  refine SyL.skip rfl rfl rfl ?_
                                  refine SyL.skip rfl rfl rfl ?_
                                  refine SyL.x (x_pickF rfl rfl rfl) rfl rfl rfl ?_
                                  refine SyL.nil ?_
                                  exact SyP.to hK ⟨lk_andF hb87 rfl, rfl, rfl, rfl, rfl, rfl, rfl, rfl, rfl, rfl, rfl, rfl, rfl, trivial⟩
                                · refine SyL.x (x_move (.inl rfl) rfl) rfl rfl rfl ?_
                                  refine SyL.x (x_move (.inl rfl) rfl) rfl rfl rfl ?_
                                  refine SyL.x (x_beq rfl rfl rfl (eqB4 _ _)) rfl rfl rfl ?_
                                  refine SyL.x (x_pickT rfl rfl rfl) rfl rfl rfl ?_
                                  refine SyL.nil ?_
                                  exact SyP.to hK ⟨lk_andT hb87 rfl rfl, rfl, rfl, rfl, rfl, rfl, rfl, rfl, rfl, rfl, rfl, rfl, rfl, trivial⟩
                              · refine SyL.x (x_move (.inl rfl) rfl) rfl rfl rfl ?_
                                refine SyL.boolAt (d := 220) rfl fun b88 hb88 => ?_
                                refine SyL.join (Fr2 := [(241, .bool ((((((((t64.2.2.2.2.2.2.2 == t10.2.2.2.2.2.2.2) && (((!t64.2.2.2.2.2.2.2) || ((((((t64.2.1 : Int) == 0) && ((t64.2.2.1 : Int) == 0))) && ((t64.2.2.2.2.2.1 : Int) == (wrap64 ((wrap64 (t2.2.2.2.2.2.1 + t2.2.1)) + t2.2.2.1))))))))) && (!t68.2.2.2.2.2.2.2))) && (t72.2.2.2.2.2.2.2 == t10.2.2.2.2.2.2.2))) && (((!t72.2.2.2.2.2.2.2) || ((((t72.2.2.2.2.2.2.1 : Int) == (wrap64 (t2.2.2.2.2.2.2 + t2.2.2.2.1))) && ((t72.2.2.1 : Int) == t2.2.1))))))), (2, .bool false), (3, .pointer (some ⟨g5, 0, none⟩)), (4, .pointer (some ⟨g6, 0, none⟩)), (16, .pointer (some ⟨g77, 0, none⟩)), (17, .int .i64 t76.2.2.2.1), (18, .int .i64 t76.2.2.2.2.1), (19, .int .i64 t76.2.2.2.2.2.1), (20, .bool t76.2.2.2.2.2.2), (21, .pointer (some ⟨g78, 0, none⟩)), (22, .int .i64 x79)]) 21 (fun K hK => ?_) ?_
                                · cases b88
                                  · refine SyL.skip rfl rfl rfl ?_
                                    refine SyL.skip rfl rfl rfl ?_
                                    refine SyL.skip rfl rfl rfl ?_
                                    refine SyL.skip rfl rfl rfl ?_
                                    refine SyL.skip rfl rfl rfl ?_
                                    refine SyL.skip rfl rfl rfl ?_
                                    refine SyL.skip rfl rfl rfl ?_
                                    refine SyL.skip rfl rfl rfl ?_
                                    refine SyL.skip rfl rfl rfl ?_
                                    refine SyL.skip rfl rfl rfl ?_
                                    refine SyL.skip rfl rfl rfl ?_
                                    refine SyL.skip rfl rfl rfl ?_
                                    refine SyL.skip rfl rfl rfl ?_
                                    refine SyL.skip rfl rfl rfl ?_
                                    refine SyL.skip rfl rfl rfl ?_
                                    refine SyL.skip rfl rfl rfl ?_
                                    refine SyL.skip rfl rfl rfl ?_
                                    refine SyL.skip rfl rfl rfl ?_
                                    refine SyL.skip rfl rfl rfl ?_
                                    refine SyL.skip rfl rfl rfl ?_
                                    refine SyL.x (x_pickF rfl rfl rfl) rfl rfl rfl ?_
                                    refine SyL.nil ?_
                                    exact SyP.to hK ⟨lk_andF hb88 rfl, rfl, rfl, rfl, rfl, rfl, rfl, rfl, rfl, rfl, rfl, trivial⟩
                                  · refine SyL.x (x_move (.inl rfl) rfl) rfl rfl rfl ?_
                                    refine SyL.x (x_not rfl rfl) rfl rfl rfl ?_
                                    refine SyL.x (x_move (.inl rfl) rfl) rfl rfl rfl ?_
                                    refine SyL.boolAt (d := 223) rfl fun b89 hb89 => ?_
                                    refine SyL.join (Fr2 := [(240, .bool ((!t72.2.2.2.2.2.2.2) || ((((t72.2.2.2.2.2.2.1 : Int) == (wrap64 (t2.2.2.2.2.2.2 + t2.2.2.2.1))) && ((t72.2.2.1 : Int) == t2.2.1))))), (2, .bool false), (3, .pointer (some ⟨g5, 0, none⟩)), (4, .pointer (some ⟨g6, 0, none⟩)), (16, .pointer (some ⟨g77, 0, none⟩)), (17, .int .i64 t76.2.2.2.1), (18, .int .i64 t76.2.2.2.2.1), (19, .int .i64 t76.2.2.2.2.2.1), (20, .bool t76.2.2.2.2.2.2), (21, .pointer (some ⟨g78, 0, none⟩)), (22, .int .i64 x79), (220, .bool true)]) 17 (fun K hK => ?_) ?_
                                    · cases b89
                                      · refine SyL.x (x_fieldAddr (m := 6) rfl rfl fo35_4 rfl) rfl rfl rfl ?_
                                        refine SyL.x (x_load1 (i := 2) rfl rfl rfl rfl one3 rfl) rfl rfl rfl ?_
                                        refine SyL.x (x_fieldAddr (m := 6) rfl rfl fo35_4 rfl) rfl rfl rfl ?_
                                        refine SyL.x (x_load1 (i := 8) rfl rfl rfl rfl one3 rfl) rfl rfl rfl ?_
                                        refine SyL.x (x_fieldAddr (m := 2) rfl rfl fo33_2 rfl) rfl rfl rfl ?_
                                        refine SyL.x (x_load1 (i := 7) rfl rfl rfl rfl one3 rfl) rfl rfl rfl ?_
                                        refine SyL.x (x_arith64 rfl rfl rfl rfl) rfl rfl rfl ?_
                                        refine SyL.x (x_cmp rfl rfl rfl rfl) rfl rfl rfl ?_
                                        refine SyL.x (x_move (.inl rfl) rfl) rfl rfl rfl ?_
                                        refine SyL.boolAt (d := 232) rfl fun b90 hb90 => ?_
                                        refine SyL.join (Fr2 := [(239, .bool (((t72.2.2.2.2.2.2.1 : Int) == (wrap64 (t2.2.2.2.2.2.2 + t2.2.2.2.1))) && ((t72.2.2.1 : Int) == t2.2.1))), (2, .bool false), (3, .pointer (some ⟨g5, 0, none⟩)), (4, .pointer (some ⟨g6, 0, none⟩)), (16, .pointer (some ⟨g77, 0, none⟩)), (17, .int .i64 t76.2.2.2.1), (18, .int .i64 t76.2.2.2.2.1), (19, .int .i64 t76.2.2.2.2.2.1), (20, .bool t76.2.2.2.2.2.2), (21, .pointer (some ⟨g78, 0, none⟩)), (22, .int .i64 x79), (220, .bool true), (223, .bool false)]) 7 (fun K hK => ?_) ?_
                                        · cases b90
                                          · refine SyL.skip rfl rfl rfl ?_
                                            refine SyL.skip rfl rfl rfl ?_
                                            refine SyL.skip rfl rfl rfl ?_
                                            refine SyL.skip rfl rfl rfl ?_
                                            refine SyL.skip rfl rfl rfl ?_
                                            refine SyL.skip rfl rfl rfl ?_
                                            refine SyL.x (x_pickF rfl rfl rfl) rfl rfl rfl ?_
                                            refine SyL.nil ?_
                                            exact SyP.to hK ⟨lk_andF hb90 rfl, rfl, rfl, rfl, rfl, rfl, rfl, rfl, rfl, rfl, rfl, rfl, rfl, trivial⟩
                                          · refine SyL.x (x_fieldAddr (m := 1) rfl rfl fo35_1 rfl) rfl rfl rfl ?_
                                            refine SyL.x (x_fieldAddr (m := 2) rfl rfl fo33_1 rfl) rfl rfl rfl ?_
                                            refine SyL.x (x_load1 (i := 2) rfl rfl rfl rfl one3 rfl) rfl rfl rfl ?_
                                            refine SyL.x (x_fieldAddr (m := 0) rfl rfl fo33_0 rfl) rfl rfl rfl ?_
                                            refine SyL.x (x_load1 (i := 7) rfl rfl rfl rfl one3 rfl) rfl rfl rfl ?_
                                            refine SyL.x (x_cmp rfl rfl rfl rfl) rfl rfl rfl ?_
                                            refine SyL.x (x_pickT rfl rfl rfl) rfl rfl rfl ?_
                                            refine SyL.nil ?_
                                            exact SyP.to hK ⟨lk_andT hb90 rfl rfl, rfl, rfl, rfl, rfl, rfl, rfl, rfl, rfl, rfl, rfl, rfl, rfl, trivial⟩
                                        · refine SyL.x (x_pickF rfl rfl rfl) rfl rfl rfl ?_
                                          refine SyL.nil ?_
                                          exact SyP.to hK ⟨lk_orF hb89 rfl rfl, rfl, rfl, rfl, rfl, rfl, rfl, rfl, rfl, rfl, rfl, rfl, trivial⟩
                                      · refine SyL.skip rfl rfl rfl ?_
                                        refine SyL.skip rfl rfl rfl ?_
                                        refine SyL.skip rfl rfl rfl ?_
                                        refine SyL.skip rfl rfl rfl ?_
                                        refine SyL.skip rfl rfl rfl ?_
                                        refine SyL.skip rfl rfl rfl ?_
                                        refine SyL.skip rfl rfl rfl ?_
                                        refine SyL.skip rfl rfl rfl ?_
                                        refine SyL.skip rfl rfl rfl ?_
                                        refine SyL.skip rfl rfl rfl ?_
                                        refine SyL.skip rfl rfl rfl ?_
                                        refine SyL.skip rfl rfl rfl ?_
                                        refine SyL.skip rfl rfl rfl ?_
                                        refine SyL.skip rfl rfl rfl ?_
                                        refine SyL.skip rfl rfl rfl ?_
                                        refine SyL.skip rfl rfl rfl ?_
                                        refine SyL.x (x_pickT rfl rfl rfl) rfl rfl rfl ?_
                                        refine SyL.nil ?_
                                        exact SyP.to hK ⟨lk_orT hb89 rfl, rfl, rfl, rfl, rfl, rfl, rfl, rfl, rfl, rfl, rfl, rfl, trivial⟩
                                    · refine SyL.x (x_pickT rfl rfl rfl) rfl rfl rfl ?_
                                      refine SyL.nil ?_
                                      exact SyP.to hK ⟨lk_andT hb88 rfl rfl, rfl, rfl, rfl, rfl, rfl, rfl, rfl, rfl, rfl, rfl, trivial⟩
                                · refine SyL.x (x_move (.inl rfl) rfl) rfl rfl rfl ?_
                                  refine SyL.boolAt (d := 242) rfl fun b91 hb91 => ?_
                                  refine SyL.join (Fr2 := [(244, .bool ((((((((((t64.2.2.2.2.2.2.2 == t10.2.2.2.2.2.2.2) && (((!t64.2.2.2.2.2.2.2) || ((((((t64.2.1 : Int) == 0) && ((t64.2.2.1 : Int) == 0))) && ((t64.2.2.2.2.2.1 : Int) == (wrap64 ((wrap64 (t2.2.2.2.2.2.1 + t2.2.1)) + t2.2.2.1))))))))) && (!t68.2.2.2.2.2.2.2))) && (t72.2.2.2.2.2.2.2 == t10.2.2.2.2.2.2.2))) && (((!t72.2.2.2.2.2.2.2) || ((((t72.2.2.2.2.2.2.1 : Int) == (wrap64 (t2.2.2.2.2.2.2 + t2.2.2.2.1))) && ((t72.2.2.1 : Int) == t2.2.1))))))) && t76.2.2.2.2.2.2)), (2, .bool false), (3, .pointer (some ⟨g5, 0, none⟩)), (4, .pointer (some ⟨g6, 0, none⟩)), (16, .pointer (some ⟨g77, 0, none⟩)), (17, .int .i64 t76.2.2.2.1), (18, .int .i64 t76.2.2.2.2.1), (19, .int .i64 t76.2.2.2.2.2.1), (21, .pointer (some ⟨g78, 0, none⟩)), (22, .int .i64 x79)]) 2 (fun K hK => ?_) ?_
                                  · cases b91
                                    · refine SyL.skip rfl rfl rfl ?_
                                      refine SyL.x (x_pickF rfl rfl rfl) rfl rfl rfl ?_
                                      refine SyL.nil ?_
                                      exact SyP.to hK ⟨lk_andF hb91 rfl, rfl, rfl, rfl, rfl, rfl, rfl, rfl, rfl, rfl, trivial⟩
                                    · refine SyL.x (x_move (.inl rfl) rfl) rfl rfl rfl ?_
                                      refine SyL.x (x_pickT rfl rfl rfl) rfl rfl rfl ?_
                                      refine SyL.nil ?_
                                      exact SyP.to hK ⟨lk_andT hb91 rfl rfl, rfl, rfl, rfl, rfl, rfl, rfl, rfl, rfl, rfl, trivial⟩
                                  · refine SyL.x (x_move (.inl rfl) rfl) rfl rfl rfl ?_
                                    refine SyL.boolAt (d := 245) rfl fun b92 hb92 => ?_
                                    refine SyL.join (Fr2 := [(249, .bool ((((((((((((t64.2.2.2.2.2.2.2 == t10.2.2.2.2.2.2.2) && (((!t64.2.2.2.2.2.2.2) || ((((((t64.2.1 : Int) == 0) && ((t64.2.2.1 : Int) == 0))) && ((t64.2.2.2.2.2.1 : Int) == (wrap64 ((wrap64 (t2.2.2.2.2.2.1 + t2.2.1)) + t2.2.2.1))))))))) && (!t68.2.2.2.2.2.2.2))) && (t72.2.2.2.2.2.2.2 == t10.2.2.2.2.2.2.2))) && (((!t72.2.2.2.2.2.2.2) || ((((t72.2.2.2.2.2.2.1 : Int) == (wrap64 (t2.2.2.2.2.2.2 + t2.2.2.2.1))) && ((t72.2.2.1 : Int) == t2.2.1))))))) && t76.2.2.2.2.2.2)) && ((t76.2.2.1 : Int) == 0))), (2, .bool false), (3, .pointer (some ⟨g5, 0, none⟩)), (4, .pointer (some ⟨g6, 0, none⟩)), (17, .int .i64 t76.2.2.2.1), (18, .int .i64 t76.2.2.2.2.1), (19, .int .i64 t76.2.2.2.2.2.1), (21, .pointer (some ⟨g78, 0, none⟩)), (22, .int .i64 x79)]) 4 (fun K hK => ?_) ?_
                                    · cases b92
                                      · refine SyL.skip rfl rfl rfl ?_
                                        refine SyL.skip rfl rfl rfl ?_
                                        refine SyL.skip rfl rfl rfl ?_
                                        refine SyL.x (x_pickF rfl rfl rfl) rfl rfl rfl ?_
                                        refine SyL.nil ?_
                                        exact SyP.to hK ⟨lk_andF hb92 rfl, rfl, rfl, rfl, rfl, rfl, rfl, rfl, rfl, trivial⟩
                                      · refine SyL.x (x_fieldAddr (m := 2) rfl rfl fo33_2 rfl) rfl rfl rfl ?_
                                        refine SyL.x (x_load1 (i := 1) rfl rfl rfl rfl one3 rfl) rfl rfl rfl ?_
                                        refine SyL.x (x_cmp rfl rfl rfl rfl) rfl rfl rfl ?_
                                        refine SyL.x (x_pickT rfl rfl rfl) rfl rfl rfl ?_
                                        refine SyL.nil ?_
                                        exact SyP.to hK ⟨lk_andT hb92 rfl rfl, rfl, rfl, rfl, rfl, rfl, rfl, rfl, rfl, trivial⟩
                                    · refine SyL.x (x_move (.inl rfl) rfl) rfl rfl rfl ?_
                                      refine SyL.boolAt (d := 250) rfl fun b93 hb93 => ?_
                                      refine SyL.join (Fr2 := [(253, .bool ((((((((((((((t64.2.2.2.2.2.2.2 == t10.2.2.2.2.2.2.2) && (((!t64.2.2.2.2.2.2.2) || ((((((t64.2.1 : Int) == 0) && ((t64.2.2.1 : Int) == 0))) && ((t64.2.2.2.2.2.1 : Int) == (wrap64 ((wrap64 (t2.2.2.2.2.2.1 + t2.2.1)) + t2.2.2.1))))))))) && (!t68.2.2.2.2.2.2.2))) && (t72.2.2.2.2.2.2.2 == t10.2.2.2.2.2.2.2))) && (((!t72.2.2.2.2.2.2.2) || ((((t72.2.2.2.2.2.2.1 : Int) == (wrap64 (t2.2.2.2.2.2.2 + t2.2.2.2.1))) && ((t72.2.2.1 : Int) == t2.2.1))))))) && t76.2.2.2.2.2.2)) && ((t76.2.2.1 : Int) == 0))) && ((t76.2.2.2.1 : Int) == 0))), (2, .bool false), (3, .pointer (some ⟨g5, 0, none⟩)), (4, .pointer (some ⟨g6, 0, none⟩)), (18, .int .i64 t76.2.2.2.2.1), (19, .int .i64 t76.2.2.2.2.2.1), (21, .pointer (some ⟨g78, 0, none⟩)), (22, .int .i64 x79)]) 3 (fun K hK => ?_) ?_
                                      · cases b93
                                        · refine SyL.skip rfl rfl rfl ?_
                                          refine SyL.skip rfl rfl rfl ?_
                                          refine SyL.x (x_pickF rfl rfl rfl) rfl rfl rfl ?_
                                          refine SyL.nil ?_
                                          exact SyP.to hK ⟨lk_andF hb93 rfl, rfl, rfl, rfl, rfl, rfl, rfl, rfl, trivial⟩
                                        · refine SyL.x (x_move (.inl rfl) rfl) rfl rfl rfl ?_
                                          refine SyL.x (x_cmp rfl rfl rfl rfl) rfl rfl rfl ?_
                                          refine SyL.x (x_pickT rfl rfl rfl) rfl rfl rfl ?_
                                          refine SyL.nil ?_
                                          exact SyP.to hK ⟨lk_andT hb93 rfl rfl, rfl, rfl, rfl, rfl, rfl, rfl, rfl, trivial⟩
                                      · refine SyL.x (x_move (.inl rfl) rfl) rfl rfl rfl ?_
                                        refine SyL.boolAt (d := 254) rfl fun b94 hb94 => ?_
                                        refine SyL.join (Fr2 := [(259, .bool ((((((((((((((((t64.2.2.2.2.2.2.2 == t10.2.2.2.2.2.2.2) && (((!t64.2.2.2.2.2.2.2) || ((((((t64.2.1 : Int) == 0) && ((t64.2.2.1 : Int) == 0))) && ((t64.2.2.2.2.2.1 : Int) == (wrap64 ((wrap64 (t2.2.2.2.2.2.1 + t2.2.1)) + t2.2.2.1))))))))) && (!t68.2.2.2.2.2.2.2))) && (t72.2.2.2.2.2.2.2 == t10.2.2.2.2.2.2.2))) && (((!t72.2.2.2.2.2.2.2) || ((((t72.2.2.2.2.2.2.1 : Int) == (wrap64 (t2.2.2.2.2.2.2 + t2.2.2.2.1))) && ((t72.2.2.1 : Int) == t2.2.1))))))) && t76.2.2.2.2.2.2)) && ((t76.2.2.1 : Int) == 0))) && ((t76.2.2.2.1 : Int) == 0))) && ((t76.2.2.2.2.1 : Int) == t2.2.2.2.1))), (2, .bool false), (3, .pointer (some ⟨g5, 0, none⟩)), (19, .int .i64 t76.2.2.2.2.2.1), (21, .pointer (some ⟨g78, 0, none⟩)), (22, .int .i64 x79)]) 5 (fun K hK => ?_) ?_
                                        · cases b94
                                          · refine SyL.skip rfl rfl rfl ?_
                                            refine SyL.skip rfl rfl rfl ?_
                                            refine SyL.skip rfl rfl rfl ?_
                                            refine SyL.skip rfl rfl rfl ?_
                                            refine SyL.x (x_pickF rfl rfl rfl) rfl rfl rfl ?_
                                            refine SyL.nil ?_
                                            exact SyP.to hK ⟨lk_andF hb94 rfl, rfl, rfl, rfl, rfl, rfl, trivial⟩
                                          · refine SyL.x (x_move (.inl rfl) rfl) rfl rfl rfl ?_
                                            refine SyL.x (x_fieldAddr (m := 2) rfl rfl fo33_2 rfl) rfl rfl rfl ?_
                                            refine SyL.x (x_load1 (i := 7) rfl rfl rfl rfl one3 rfl) rfl rfl rfl ?_
                                            refine SyL.x (x_cmp rfl rfl rfl rfl) rfl rfl rfl ?_
                                            refine SyL.x (x_pickT rfl rfl rfl) rfl rfl rfl ?_
                                            refine SyL.nil ?_
                                            exact SyP.to hK ⟨lk_andT hb94 rfl rfl, rfl, rfl, rfl, rfl, rfl, trivial⟩
                                        · refine SyL.x (x_move (.inl rfl) rfl) rfl rfl rfl ?_
                                          refine SyL.boolAt (d := 260) rfl fun b95 hb95 => ?_
                                          refine SyL.join (Fr2 := [(263, .bool ((((((((((((((((((t64.2.2.2.2.2.2.2 == t10.2.2.2.2.2.2.2) && (((!t64.2.2.2.2.2.2.2) || ((((((t64.2.1 : Int) == 0) && ((t64.2.2.1 : Int) == 0))) && ((t64.2.2.2.2.2.1 : Int) == (wrap64 ((wrap64 (t2.2.2.2.2.2.1 + t2.2.1)) + t2.2.2.1))))))))) && (!t68.2.2.2.2.2.2.2))) && (t72.2.2.2.2.2.2.2 == t10.2.2.2.2.2.2.2))) && (((!t72.2.2.2.2.2.2.2) || ((((t72.2.2.2.2.2.2.1 : Int) == (wrap64 (t2.2.2.2.2.2.2 + t2.2.2.2.1))) && ((t72.2.2.1 : Int) == t2.2.1))))))) && t76.2.2.2.2.2.2)) && ((t76.2.2.1 : Int) == 0))) && ((t76.2.2.2.1 : Int) == 0))) && ((t76.2.2.2.2.1 : Int) == t2.2.2.2.1))) && ((t76.2.2.2.2.2.1 : Int) == 0))), (2, .bool false), (3, .pointer (some ⟨g5, 0, none⟩)), (21, .pointer (some ⟨g78, 0, none⟩)), (22, .int .i64 x79)]) 3 (fun K hK => ?_) ?_
                                          · cases b95
                                            · refine SyL.skip rfl rfl rfl ?_
                                              refine SyL.skip rfl rfl rfl ?_
                                              refine SyL.x (x_pickF rfl rfl rfl) rfl rfl rfl ?_
                                              refine SyL.nil ?_
                                              exact SyP.to hK ⟨lk_andF hb95 rfl, rfl, rfl, rfl, rfl, trivial⟩
                                            · refine SyL.x (x_move (.inl rfl) rfl) rfl rfl rfl ?_
                                              refine SyL.x (x_cmp rfl rfl rfl rfl) rfl rfl rfl ?_
                                              refine SyL.x (x_pickT rfl rfl rfl) rfl rfl rfl ?_
                                              refine SyL.nil ?_
                                              exact SyP.to hK ⟨lk_andT hb95 rfl rfl, rfl, rfl, rfl, rfl, trivial⟩
                                          · refine SyL.x (x_move (.inl rfl) rfl) rfl rfl rfl ?_
                                            refine SyL.boolAt (d := 264) rfl fun b96 hb96 => ?_
                                            cases b96
                                            · replace h := iteF hb96 h
                                              refine SyL.skip rfl rfl rfl ?_
                                              refine SyL.skip rfl rfl rfl ?_
                                              refine SyL.skip rfl rfl rfl ?_
                                              refine SyL.x (x_pickF rfl rfl rfl) rfl rfl rfl ?_
                                              refine SyL.x (x_move (.inl rfl) rfl) rfl rfl rfl ?_
                                              refine SyL.skip rfl rfl rfl ?_
                                              refine SyL.skip rfl rfl rfl ?_
                                              refine SyL.skip rfl rfl rfl ?_
                                              refine SyL.skip rfl rfl rfl ?_
                                              refine SyL.x (x_pickF rfl rfl rfl) rfl rfl rfl ?_
                                              refine SyL.x (x_move (.inr rfl) rfl) rfl rfl rfl ?_
                                              refine SyL.nil ?_
                                              refine SyP.seqN ?_
                                              refine SyC.ret ?_
                                              refine SyP.ret Try.results4 (.cons (resV_tmp rfl) .nil) fun w hw => ?_
                                              obtain rfl := Option.some.inj h
                                              exact ⟨rfl, hw.below⟩
                                            · replace h := iteT hb96 h
                                              refine SyL.x (x_loadW (i := 0) rfl rfl rfl rfl agg35) rfl rfl rfl ?_
                                              obtain ⟨t97, ht97, h⟩ := bindS h
                                              refine SyL.call0 (vs := [_]) rfl rfl cl15 rfl rfl rfl (fun w hw => impl_BookOk.calls _ _ _ _ _ _ _ _ _ _ w (hw.rd 5 rfl) (hw.rl 5 rfl) ht97) ?_
                                              refine SyL.x (x_not rfl rfl) rfl rfl rfl ?_
                                              refine SyL.x (x_pickT rfl rfl rfl) rfl rfl rfl ?_
                                              refine SyL.x (x_move (.inl rfl) rfl) rfl rfl rfl ?_
                                              cases t97
                                              · replace h := iteF rfl h
                                                refine SyL.x (x_loadW (i := 8) rfl rfl rfl rfl agg35) rfl rfl rfl ?_
                                                obtain ⟨t98, ht98, h⟩ := bindS h
                                                refine SyL.call0 (vs := [_]) rfl rfl cl22 rfl rfl rfl (fun w hw => impl_DaysIn.calls k _ _ _ _ _ _ _ _ _ _ w (hw.rd 5 rfl) (hw.rl 5 rfl) ht98) ?_
                                                refine SyL.x (x_move (.inl rfl) rfl) rfl rfl rfl ?_
                                                refine SyL.x (x_cmp rfl rfl rfl rfl) rfl rfl rfl ?_
                                                refine SyL.x (x_pickT rfl rfl rfl) rfl rfl rfl ?_
                                                refine SyL.x (x_move (.inr rfl) rfl) rfl rfl rfl ?_
                                                refine SyL.nil ?_
                                                refine SyP.seqN ?_
                                                refine SyC.ret ?_
                                                refine SyP.ret Try.results4 (.cons (resV_tmp rfl) .nil) fun w hw => ?_
                                                obtain rfl := Option.some.inj h
                                                exact ⟨rfl, hw.below⟩
                                              · replace h := iteT rfl h
                                                refine SyL.skip rfl rfl rfl ?_
                                                refine SyL.skip rfl rfl rfl ?_
                                                refine SyL.skip rfl rfl rfl ?_
                                                refine SyL.skip rfl rfl rfl ?_
                                                refine SyL.x (x_pickF rfl rfl rfl) rfl rfl rfl ?_
                                                refine SyL.x (x_move (.inr rfl) rfl) rfl rfl rfl ?_
                                                refine SyL.nil ?_
                                                refine SyP.seqN ?_
                                                refine SyC.ret ?_
                                                refine SyP.ret Try.results4 (.cons (resV_tmp rfl) .nil) fun w hw => ?_
                                                obtain rfl := Option.some.inj h
                                                exact ⟨rfl, hw.below⟩
                        · replace h := iteT hb81 h
                          refine SyC.condT rfl ?_
                          refine SyC.skip ?_
                          refine SyP.seqN ?_
                          refine SyC.seq ?_
                          refine SyC.block ?_
                          refine SyC.region ?_
                          refine SyL.x (x_move (.inl rfl) rfl) rfl rfl rfl ?_
                          refine SyL.x (x_fieldAddr (m := 0) rfl rfl fo35_0 rfl) rfl rfl rfl ?_
                          refine SyL.x (x_load1 (i := 8) rfl rfl rfl rfl one31 rfl) rfl rfl rfl ?_
                          refine SyL.x (x_move (.inl rfl) rfl) rfl rfl rfl ?_
                          obtain ⟨hp99, h⟩ := limS h
                          obtain ⟨gp99, h⟩ := limS h
                          refine SyL.get (p := ∃ ad, A3 = some ad) (fun w hw => by obtain ⟨ad', e', _⟩ := at_T54 (hw.rd 5 rfl) x80 hp99 gp99; exact ⟨ad', e'⟩) ?_
                          rintro ⟨ad100, rfl⟩
                          refine SyL.x (x_idx rfl rfl rfl hp99 gp99 Try.underlying31 size54) rfl rfl rfl ?_
                          refine SyL.x (x_fieldAddrG rfl rfl fo54_0) rfl rfl rfl ?_
                          refine SyL.x (x_loadC rfl rfl one3 (fun w hw => by obtain ⟨ad', e', hx0, hx1⟩ := at_T54 (hw.rd 5 rfl) x80 hp99 gp99; cases e'; exact hx0)) rfl rfl rfl ?_
                          refine SyL.x (x_cmp rfl rfl rfl rfl) rfl rfl rfl ?_
                          obtain ⟨t101, ht101, h⟩ := bindS h
                          refine SyL.callD (vs := [_]) rfl rfl cl21 rfl rfl rfl (fun w hw => laws_btoi.calls _ _ w  ht101) ?_
                          refine SyL.x (x_arith64 rfl rfl rfl rfl) rfl rfl rfl ?_
                          refine SyL.x (x_move (.inr rfl) rfl) rfl rfl rfl ?_
                          refine SyL.nil ?_
                          refine SyP.blockN ?_
                          refine SyP.seqN ?_
                          refine SyC.region ?_
                          refine SyL.x (x_move (.inl rfl) rfl) rfl rfl rfl ?_
                          refine SyL.x (x_arith64 rfl rfl rfl rfl) rfl rfl rfl ?_
                          refine SyL.x (x_move (.inr rfl) rfl) rfl rfl rfl ?_
                          refine SyL.nil ?_
                          exact SyP.again (k, wrap64 (x79 + t101), wrap64 (x80 + 1)) ⟨h, Nat.lt_succ_self _⟩ ⟨rfl, rfl, rfl, rfl, rfl, rfl, rfl, rfl, rfl, rfl, rfl, rfl, rfl, rfl, rfl, rfl, rfl, trivial⟩ rfl rfl
                      · replace h := iteT hb63 h
                        refine SyC.condT rfl ?_
                        refine SyC.seq ?_
                        refine SyC.region ?_
                        refine SyL.x (x_move (.inr rfl) rfl) rfl rfl rfl ?_
                        refine SyL.nil ?_
                        refine SyP.seqN ?_
                        refine SyC.ret ?_
                        refine SyP.seqR ?_
                        refine SyP.ret Try.results4 (.cons (resV_tmp rfl) .nil) fun w hw => ?_
                        obtain rfl := Option.some.inj h
                        exact ⟨rfl, hw.below⟩
        · replace h := iteT hb14 h
          refine SyC.condT rfl ?_
          refine SyC.seq ?_
          refine SyC.region ?_
          refine SyL.x (x_move (.inr rfl) rfl) rfl rfl rfl ?_
          refine SyL.nil ?_
          refine SyP.seqN ?_
          refine SyC.ret ?_
          refine SyP.seqR ?_
          refine SyP.ret Try.results4 (.cons (resV_tmp rfl) .nil) fun w hw => ?_
          obtain rfl := Option.some.inj h
          exact ⟨rfl, hw.below⟩
      · replace h := iteT hb8 h
        refine SyC.condT rfl ?_
        refine SyC.seq ?_
        refine SyC.region ?_
        refine SyL.x (x_move (.inr rfl) rfl) rfl rfl rfl ?_
        refine SyL.nil ?_
        refine SyP.seqN ?_
        refine SyC.ret ?_
        refine SyP.seqR ?_
        refine SyP.ret Try.results4 (.cons (resV_tmp rfl) .nil) fun w hw => ?_
        obtain rfl := Option.some.inj h
        exact ⟨rfl, hw.below⟩
  · replace h := iteT rfl h
    refine SyC.condT rfl ?_
    refine SyC.seq ?_
    refine SyC.region ?_
    refine SyL.x (x_move (.inr rfl) rfl) rfl rfl rfl ?_
    refine SyL.nil ?_
    refine SyP.seqN ?_
    refine SyC.ret ?_
    refine SyP.seqR ?_
    refine SyP.ret Try.results4 (.cons (resV_tmp rfl) .nil) fun w hw => ?_
    obtain rfl := Option.some.inj h
    exact ⟨rfl, hw.below⟩
end Go.Proofs.Ytdlmincaplbpgaa.Q
namespace Go.Proofs.Ytdlmincaplbpgaa.Q
open Go.RowKit Go.Proofs.YtdlmincaplbpgaaW.PrintWords Go.Proofs.YtdlmincaplbpgaaW.PrintLast
set_option linter.unusedVariables false
set_option linter.unusedSimpArgs false
theorem w64in (n : Int) (h : -9223372036854775808 ≤ n ∧ n ≤ 9223372036854775807) : wrap64 n = n := by unfold wrap64; omega
theorem spec_l01In.eq (n a b : Int) : spec_l01In.f n a b = some (inR n a b) := by
  unfold spec_l01In.f inR
  by_cases h : n ≥ a
  · rw [if_pos h, decide_eq_true (show a ≤ n from h), Bool.true_and]
  · rw [if_neg h, decide_eq_false (show ¬ a ≤ n from h), Bool.false_and]
theorem spec_RackOk.eq (f d o : Int) : spec_RackOk.f f d o = some (rOk f d o) := by
  unfold spec_RackOk.f rOk
  simp only [spec_l01In.eq, Option.bind_some]
  cases inR f 0 10000 <;> cases inR d 0 10000 <;> rfl
theorem spec_EventOn.ev (k : Nat) (f d o kk n : Int) : spec_EventOn.f (k + 1) f d o kk n = some (evOn f d o kk n) := by
  unfold spec_EventOn.f evOn
  rw [spec_RackOk.eq, Option.bind_some, spec_l01In.eq, Option.bind_some]
  by_cases h1 : rOk f d o = true
  · rw [if_pos h1]
    by_cases h2 : inR n 0 1000 = true
    · have r := (rOk_iff f d o).1 h1
      have i := (inR_iff n 0 1000).1 h2
      obtain ⟨⟨_, _⟩, ⟨_, _⟩, _, _⟩ := r
      obtain ⟨_, _⟩ := i
      have h3 : inR n 0 10000 = true := (inR_iff n 0 10000).2 ⟨by omega, by omega⟩
      have h0 : inR 0 0 10000 = true := by decide
      unfold spec_EventOn.j0
      simp only [h1, h2, Bool.not_true, Bool.false_eq_true, if_false, Bool.and_self, if_true]
      by_cases k1 : kk = 1
      · subst k1
        have hw : wrap64 (f + n) = f + n := w64in _ (by omega)
        simp only [if_true, spec_RackOk.eq, Option.bind_some, hw]
        by_cases hf : f + n ≤ 10000
        · have hr : rOk (f + n) d o = true := (rOk_iff _ _ _).2 (by omega)
          simp only [hr, hf, if_true]
        · have hr : ¬ rOk (f + n) d o = true := fun h => hf ((rOk_iff _ _ _).1 h).1.2
          simp only [hr, hf, if_false, Bool.false_eq_true]
      by_cases k2 : kk = 2
      · subst k2
        unfold spec_SellFresh.f
        simp only [spec_RackOk.eq, spec_l01In.eq, Option.bind_some, h1, h3, if_true, (by decide : ¬ (2 : Int) = 1), if_false]
        have e1 : wrap64 (f - mn n f) = f - mn n f := w64in _ (by unfold mn; split <;> omega)
        have e2 : wrap64 (n - mn n f) = n - mn n f := w64in _ (by unfold mn; split <;> omega)
        rw [e1, e2]
        by_cases hn : n ≤ f + d
        · have e3 : mn (n - mn n f) d = n - mn n f := by unfold mn; repeat' split <;> omega
          have e4 : wrap64 (d - (n - mn n f)) = d - (n - mn n f) := w64in _ (by unfold mn; split <;> omega)
          have e5 : wrap64 (mn n f + (n - mn n f)) = n := by rw [w64in _ (by unfold mn; split <;> omega)]; omega
          simp only [e3, e4, e5, hn, if_true]
        · have e3 : ¬ wrap64 (mn n f + mn (n - mn n f) d) = n := by
            rw [w64in _ (by unfold mn; repeat' split <;> omega)]
            unfold mn; repeat' split <;> omega
          simp only [e3, hn, if_false]
      by_cases k3 : kk = 3
      · subst k3
        unfold spec_SellCheap.f
        simp only [spec_RackOk.eq, spec_l01In.eq, Option.bind_some, h1, h3, if_true, (by decide : ¬ (3 : Int) = 1), (by decide : ¬ (3 : Int) = 2), if_false]
        have e1 : wrap64 (o - mn n o) = o - mn n o := w64in _ (by unfold mn; split <;> omega)
        have e2 : wrap64 (n - mn n o) = n - mn n o := w64in _ (by unfold mn; split <;> omega)
        rw [e1, e2]
        by_cases hn : n ≤ o + d
        · have e3 : mn (n - mn n o) d = n - mn n o := by unfold mn; repeat' split <;> omega
          have e4 : wrap64 (d - (n - mn n o)) = d - (n - mn n o) := w64in _ (by unfold mn; split <;> omega)
          have e5 : wrap64 (mn n o + (n - mn n o)) = n := by rw [w64in _ (by unfold mn; split <;> omega)]; omega
          simp only [e3, e4, e5, hn, if_true]
        · have e3 : ¬ wrap64 (mn n o + mn (n - mn n o) d) = n := by
            rw [w64in _ (by unfold mn; repeat' split <;> omega)]
            unfold mn; repeat' split <;> omega
          simp only [e3, hn, if_false]
      by_cases k4 : kk = 4
      · subst k4
        unfold spec_NextMorning.f
        simp only [spec_RackOk.eq, spec_l01In.eq, Option.bind_some, h1, h0, if_true, (by decide : ¬ (4 : Int) = 1), (by decide : ¬ (4 : Int) = 2), (by decide : ¬ (4 : Int) = 3), if_false]
        by_cases hn : n = 0 <;> simp [hn]
      · simp only [k1, k2, k3, k4, if_false]
    · unfold spec_EventOn.j0
      simp [h1, h2]
  · rw [if_neg h1]
    unfold spec_EventOn.j0
    simp [h1]
theorem spec_l37Count.run_some (l ys : List S54) (hL : l.length ≤ 40) : ∀ (n i : Nat) (x y : Bk) (k : Nat), l.length - i ≤ n → i ≤ l.length → n + 2 ≤ k → (0 ≤ x.b ∧ x.b ≤ 10000 * i) ∧ (0 ≤ x.s ∧ x.s ≤ 10000 * i) ∧ (0 ≤ x.t ∧ x.t ≤ 10000 * i) → x.run (l.drop i) = some y → spec_l37Count.l0 k l (i : Int) ys x.f x.d x.o x.b x.s x.t = some (ys, y.f, y.d, y.o, y.b, y.s, y.t, true) := by
  intro n
  induction n with
  | zero =>
    intro i x y k h1 h2 h3 hx h
    obtain rfl : i = l.length := by omega
    rw [List.drop_length] at h
    cases h
    obtain ⟨k, rfl⟩ : ∃ m, k = m + 1 := ⟨k - 1, by omega⟩
    unfold spec_l37Count.l0
    rw [if_neg (by omega)]
  | succ n ih =>
    intro i x y k h1 h2 h3 hx h
    by_cases hi : i < l.length
    · obtain ⟨k, rfl⟩ : ∃ m, k = m + 2 := ⟨k - 2, by omega⟩
      rw [Bk.run_drop x l i hi] at h
      unfold spec_l37Count.l0
      rw [if_pos (by omega), if_pos (by omega), spec_EventOn.ev, Option.bind_some]
      unfold Bk.step at h
      generalize rd_T54 l (i : Int) = ev at h ⊢
      generalize hr : evOn x.f x.d x.o ev.f0 ev.f1 = r at h ⊢
      obtain ⟨x1, x2, x3, x4, x5, x6, x7⟩ := r
      obtain ⟨⟨_, _⟩, ⟨_, _⟩, ⟨_, _⟩⟩ := evOn_bounds hr
      cases x7 with
      | false => simp at h
      | true =>
        simp only [if_true, Option.bind_some] at h ⊢
        obtain ⟨⟨_, _⟩, ⟨_, _⟩, ⟨_, _⟩⟩ := hx
        rw [w64in ((i : Int) + 1) (by omega), w64in (x.b + x4) (by omega), w64in (x.s + x5) (by omega), w64in (x.t + x6) (by omega)]
        exact ih (i + 1) ⟨x1, x2, x3, x.b + x4, x.s + x5, x.t + x6⟩ y (k + 1) (by omega) (by omega) (by omega) (by simp only; omega) h
    · obtain rfl : i = l.length := by omega
      exact ih l.length x y k (by omega) (by omega) (by omega) hx h
theorem spec_l37Count.run_none (l ys : List S54) (hL : l.length ≤ 40) : ∀ (n i : Nat) (x : Bk) (k : Nat), l.length - i ≤ n → i ≤ l.length → n + 2 ≤ k → (0 ≤ x.b ∧ x.b ≤ 10000 * i) ∧ (0 ≤ x.s ∧ x.s ≤ 10000 * i) ∧ (0 ≤ x.t ∧ x.t ≤ 10000 * i) → x.run (l.drop i) = none → ∃ y : Bk, spec_l37Count.l0 k l (i : Int) ys x.f x.d x.o x.b x.s x.t = some (ys, y.f, y.d, y.o, y.b, y.s, y.t, false) := by
  intro n
  induction n with
  | zero =>
    intro i x k h1 h2 h3 hx h
    obtain rfl : i = l.length := by omega
    rw [List.drop_length] at h
    cases h
  | succ n ih =>
    intro i x k h1 h2 h3 hx h
    by_cases hi : i < l.length
    · obtain ⟨k, rfl⟩ : ∃ m, k = m + 2 := ⟨k - 2, by omega⟩
      rw [Bk.run_drop x l i hi] at h
      unfold spec_l37Count.l0
      rw [if_pos (by omega), if_pos (by omega), spec_EventOn.ev, Option.bind_some]
      unfold Bk.step at h
      generalize rd_T54 l (i : Int) = ev at h ⊢
      generalize hr : evOn x.f x.d x.o ev.f0 ev.f1 = r at h ⊢
      obtain ⟨x1, x2, x3, x4, x5, x6, x7⟩ := r
      obtain ⟨⟨_, _⟩, ⟨_, _⟩, ⟨_, _⟩⟩ := evOn_bounds hr
      cases x7 with
      | false => exact ⟨x, by simp⟩
      | true =>
        simp only [if_true, Option.bind_some] at h ⊢
        obtain ⟨⟨_, _⟩, ⟨_, _⟩, ⟨_, _⟩⟩ := hx
        rw [w64in ((i : Int) + 1) (by omega), w64in (x.b + x4) (by omega), w64in (x.s + x5) (by omega), w64in (x.t + x6) (by omega)]
        exact ih (i + 1) ⟨x1, x2, x3, x.b + x4, x.s + x5, x.t + x6⟩ (k + 1) (by omega) (by omega) (by omega) (by simp only; omega) h
    · obtain rfl : i = l.length := by omega
      exact ih l.length x k (by omega) (by omega) (by omega) hx h
theorem spec_l37Count.f_ok {k : Nat} (hk : 42 ≤ k) (l : List S54) (x : Bk) (h : Bk.tally l = some x) : spec_l37Count.f k l = some (l, x.f, x.d, x.o, x.b, x.s, x.t, true) := by
  unfold Bk.tally at h
  by_cases h4 : l.length ≤ 40
  · rw [if_pos h4] at h
    have := spec_l37Count.run_some l l h4 40 0 Bk.zero x k (by omega) (by omega) (by omega) (by simp [Bk.zero]) (by simpa using h)
    unfold spec_l37Count.f
    simp only [Option.bind_some, List.nil_append, List.length_nil, Nat.zero_add]
    rw [if_pos (by omega), if_neg (by omega)]
    exact this
  · rw [if_neg h4] at h
    cases h
theorem spec_l37Count.f_no {k : Nat} (hk : 42 ≤ k) (l : List S54) (hl : l.length < 8796093022208) (h : Bk.tally l = none) : ∃ y : Bk, spec_l37Count.f k l = some (l, y.f, y.d, y.o, y.b, y.s, y.t, false) := by
  unfold spec_l37Count.f
  simp only [Option.bind_some, List.nil_append, List.length_nil, Nat.zero_add]
  rw [if_pos hl]
  by_cases h4 : l.length ≤ 40
  · unfold Bk.tally at h
    rw [if_pos h4] at h
    rw [if_neg (by omega)]
    exact spec_l37Count.run_none l l h4 40 0 Bk.zero k (by omega) (by omega) (by omega) (by simp [Bk.zero]) (by simpa using h)
  · rw [if_pos (by omega)]
    exact ⟨Bk.zero, rfl⟩
theorem and255 (x : Int) : 0 ≤ Go.bits .and .i64 x 255 ∧ Go.bits .and .i64 x 255 ≤ 255 := by
  unfold Go.bits
  simp only
  have h : ((BitVec.ofInt IntKind.i64.bits x) &&& (BitVec.ofInt IntKind.i64.bits 255)).toNat ≤ 255 := by
    rw [BitVec.toNat_and]
    exact Nat.le_trans Nat.and_le_right (by decide)
  rw [IntKind.wrap_i64]; omega
def CurOk (s : List Int) (i : Int) : Prop := 0 ≤ i ∧ i ≤ s.length ∧ s.length ≤ 140737488351232
theorem spec_l01Byte.ok {s : List Int} {i : Int} (h : Int) (hc : CurOk s i) : ∃ x i' h', spec_l01Byte.f s i h = some (x, i', h') ∧ (0 ≤ x ∧ x ≤ 255) ∧ CurOk s i' := by
  obtain ⟨h0, h1, h2⟩ := hc
  unfold spec_l01Byte.f
  by_cases hi : i < s.length
  · rw [if_pos hi, if_pos h0]
    refine ⟨_, _, _, rfl, and255 _, ?_⟩
    rw [w64in _ (by omega)]; exact ⟨by omega, by omega, h2⟩
  · rw [if_neg hi]
    exact ⟨_, _, _, rfl, and255 _, h0, h1, h2⟩
theorem spec_l01Below.ok {s : List Int} {i : Int} (h n : Int) (hc : CurOk s i) (hn : 0 < n) : ∃ x i' h', spec_l01Below.f s i h n = some (x, i', h') ∧ (0 ≤ x ∧ x < n) ∧ CurOk s i' := by
  unfold spec_l01Below.f
  rw [if_neg (by omega)]
  by_cases h256 : n ≤ 256
  · rw [if_pos h256]
    obtain ⟨x, i', h', e, hx, hc'⟩ := spec_l01Byte.ok h hc
    rw [e, Option.bind_some, if_neg (by omega)]
    exact ⟨_, _, _, rfl, ⟨Int.tmod_nonneg _ hx.1, Int.tmod_lt_of_pos _ hn⟩, hc'⟩
  · rw [if_neg h256]
    obtain ⟨x, i1, h1, e1, hx, hc1⟩ := spec_l01Byte.ok h hc
    obtain ⟨y, i2, h2, e2, hy, hc2⟩ := spec_l01Byte.ok h1 hc1
    obtain ⟨z, i3, h3, e3, hz, hc3⟩ := spec_l01Byte.ok h2 hc2
    obtain ⟨v, i4, h4, e4, hv, hc4⟩ := spec_l01Byte.ok h3 hc3
    rw [e1, Option.bind_some, e2, Option.bind_some, e3, Option.bind_some, e4, Option.bind_some, if_neg (by omega)]
    refine ⟨_, _, _, rfl, ⟨Int.tmod_nonneg _ ?_, Int.tmod_lt_of_pos _ hn⟩, hc4⟩
    simp only
    rw [w64in (x * 16777216) (by omega), w64in (y * 65536) (by omega), w64in (z * 256) (by omega), w64in (x * 16777216 + y * 65536) (by omega), w64in (x * 16777216 + y * 65536 + z * 256) (by omega), w64in _ (by omega)]
    omega
theorem spec_l01New.ok (s : List Int) (hs : s.length ≤ 140737488351232) : ∀ (n i : Nat) (x : Int) (k : Nat), 4000 - i ≤ n → n + 1 ≤ k → i ≤ s.length → ∃ h, spec_l01New.l0 k s x i = some (s, 0, h) := by
  intro n
  induction n with
  | zero =>
    intro i x k h1 h2 h3
    obtain ⟨k, rfl⟩ : ∃ m, k = m + 1 := ⟨k - 1, by omega⟩
    unfold spec_l01New.l0
    by_cases hi : (i : Int) < s.length
    · rw [if_pos hi, if_neg (by omega)]; exact ⟨_, rfl⟩
    · rw [if_neg hi]; exact ⟨_, rfl⟩
  | succ n ih =>
    intro i x k h1 h2 h3
    obtain ⟨k, rfl⟩ : ∃ m, k = m + 1 := ⟨k - 1, by omega⟩
    unfold spec_l01New.l0
    by_cases hi : (i : Int) < s.length
    · rw [if_pos hi]
      by_cases h4 : (i : Int) < 4000
      · rw [if_pos h4, if_pos (by omega), w64in ((i : Int) + 1) (by omega)]
        exact ih (i + 1) _ k (by omega) (by omega) (by omega)
      · rw [if_neg h4]; exact ⟨_, rfl⟩
    · rw [if_neg hi]; exact ⟨_, rfl⟩
theorem spec_l01New.start (s : List Int) (hs : s.length ≤ 140737488351232) (k : Nat) (hk : 4001 ≤ k) : ∃ h, spec_l01New.f k s = some (s, 0, h) ∧ CurOk s 0 := by
  obtain ⟨h, e⟩ := spec_l01New.ok s hs 4000 0 (wrap64 (33101 + (s.length : Int))) k (by omega) (by omega) (by omega)
  exact ⟨h, e, by unfold CurOk; omega⟩
theorem spec_l37Event.ok {s : List Int} {i : Int} (h : Int) (hc : CurOk s i) : ∃ k n i' h', spec_l37Event.f s i h = some (k, n, i', h') ∧ (1 ≤ k ∧ k ≤ 4) ∧ (0 ≤ n ∧ n ≤ 59) ∧ CurOk s i' := by
  unfold spec_l37Event.f
  obtain ⟨x, i1, h1, e, hx, hc1⟩ := spec_l01Below.ok h 4 hc (by omega)
  rw [e, Option.bind_some]
  simp only [w64in (1 + x) (by omega)]
  by_cases c1 : 1 + x = 1
  · obtain ⟨y, i2, h2, e2, hy, hc2⟩ := spec_l01Below.ok h1 60 hc1 (by omega)
    rw [if_pos c1, e2]
    exact ⟨_, _, _, _, rfl, by omega, by omega, hc2⟩
  by_cases c2 : 1 + x = 2
  · obtain ⟨y, i2, h2, e2, hy, hc2⟩ := spec_l01Below.ok h1 25 hc1 (by omega)
    rw [if_neg c1, if_pos c2, e2]
    exact ⟨_, _, _, _, rfl, by omega, by omega, hc2⟩
  by_cases c3 : 1 + x = 3
  · obtain ⟨y, i2, h2, e2, hy, hc2⟩ := spec_l01Below.ok h1 25 hc1 (by omega)
    rw [if_neg c1, if_neg c2, if_pos c3, e2]
    exact ⟨_, _, _, _, rfl, by omega, by omega, hc2⟩
  rw [if_neg c1, if_neg c2, if_neg c3]
  exact ⟨_, _, _, _, rfl, by omega, by omega, hc1⟩
theorem bkOk_iff (l : List S54) (f d o b s t : Int) : bkOk l f d o b s t = true ↔ Bk.tally l = some ⟨f, d, o, b, s, t⟩ := by
  unfold bkOk
  cases h : Bk.tally l with
  | none => simp
  | some x => cases x; simp [and_assoc]
theorem Bk.run_app (x : Bk) (l : List S54) (e : S54) : x.run (l ++ [e]) = (x.run l).bind fun y => y.step e := by
  induction l generalizing x with
  | nil => simp only [List.nil_append, Bk.run, Option.bind_some]; cases x.step e <;> rfl
  | cons a l ih =>
    simp only [List.cons_append, Bk.run]
    cases x.step a with
    | none => rfl
    | some y => exact ih y
theorem tally_len {l : List S54} {x : Bk} (h : Bk.tally l = some x) : l.length ≤ 40 ∧ Bk.zero.run l = some x := by
  unfold Bk.tally at h
  by_cases h4 : l.length ≤ 40
  · rw [if_pos h4] at h; exact ⟨h4, h⟩
  · rw [if_neg h4] at h; cases h
theorem tally_app {l : List S54} {x : Bk} (h : Bk.tally l = some x) (e : S54) : Bk.tally (l ++ [e]) = if l.length < 40 then x.step e else none := by
  obtain ⟨h4, hr⟩ := tally_len h
  unfold Bk.tally
  rw [Bk.run_app, hr, List.length_append, List.length_singleton, Option.bind_some]
  by_cases h5 : l.length < 40
  · rw [if_pos (by omega), if_pos h5]
  · rw [if_neg (by omega), if_neg h5]
theorem entM_ok {l : List S54} {f d o b s t : Int} (h : bkOk l f d o b s t = true) (k n : Int) {f' d' o' pb ps pt : Int} {ok : Bool} (he : evOn f d o k n = (f', d', o', pb, ps, pt, ok)) :
    entM l f d o b s t k n = if l.length < 40 ∧ ok = true then (l ++ [⟨k, n⟩], f', d', o', b + pb, s + ps, t + pt, true) else (l, f, d, o, b, s, t, false) := by
  unfold entM
  rw [if_pos h, tally_app ((bkOk_iff _ _ _ _ _ _ _).1 h)]
  unfold Bk.step
  simp only [he]
  by_cases h4 : l.length < 40 <;> cases ok <;> simp [h4]
theorem entM_bkOk {l : List S54} {f d o b s t k n : Int} (h : bkOk l f d o b s t = true) : bkOk (entM l f d o b s t k n).1 (entM l f d o b s t k n).2.1 (entM l f d o b s t k n).2.2.1 (entM l f d o b s t k n).2.2.2.1 (entM l f d o b s t k n).2.2.2.2.1 (entM l f d o b s t k n).2.2.2.2.2.1 (entM l f d o b s t k n).2.2.2.2.2.2.1 = true := by
  unfold entM
  rw [if_pos h]
  cases hT : Bk.tally (l ++ [⟨k, n⟩]) with
  | none => exact h
  | some x => exact (bkOk_iff _ _ _ _ _ _ _).2 hT
structure Dk (m : Int) (l : List S54) (f d o b s t : Int) : Prop where
  ok : bkOk l f d o b s t = true
  len : (l.length : Int) ≤ m
  nn : 0 ≤ f ∧ 0 ≤ d ∧ 0 ≤ o ∧ 0 ≤ s ∧ 0 ≤ t
  sum : b = s + t + f + d + o
  top : b ≤ 59 * m
theorem evOn_sum {f d o k n f' d' o' pb ps pt : Int} {ok : Bool} (h : evOn f d o k n = (f', d', o', pb, ps, pt, ok)) (h0 : 0 ≤ f ∧ 0 ≤ d ∧ 0 ≤ o) (hn : 0 ≤ n) : (0 ≤ f' ∧ 0 ≤ d' ∧ 0 ≤ o' ∧ 0 ≤ ps ∧ 0 ≤ pt) ∧ pb + f + d + o = ps + pt + f' + d' + o' ∧ pb ≤ n := by
  unfold evOn mn at h
  repeat' split at h
  all_goals (simp only [Prod.mk.injEq] at h; omega)
theorem Dk.ent {m : Int} {l : List S54} {f d o b s t : Int} (h : Dk m l f d o b s t) (k n : Int) (hn : 0 ≤ n ∧ n ≤ 59) {l' : List S54} {f' d' o' b' s' t' : Int} {ok : Bool} (he : entM l f d o b s t k n = (l', f', d', o', b', s', t', ok)) : Dk (m + 1) l' f' d' o' b' s' t' := by
  obtain ⟨h1, h2, h3, h4, h5⟩ := h
  have hb := entM_bkOk (k := k) (n := n) h1
  rw [he] at hb
  generalize hv : evOn f d o k n = v at *
  obtain ⟨f1, d1, o1, pb, ps, pt, ok1⟩ := v
  rw [entM_ok h1 k n hv] at he
  have hs := evOn_sum hv (by omega) hn.1
  by_cases hc : l.length < 40 ∧ ok1 = true
  · rw [if_pos hc] at he
    simp only [Prod.mk.injEq] at he
    obtain ⟨rfl, rfl, rfl, rfl, rfl, rfl, rfl, _⟩ := he
    exact ⟨hb, by simp only [List.length_append, List.length_singleton]; omega, by omega, by omega, by omega⟩
  · rw [if_neg hc] at he
    simp only [Prod.mk.injEq] at he
    obtain ⟨rfl, rfl, rfl, rfl, rfl, rfl, rfl, _⟩ := he
    exact ⟨hb, by omega, by omega, by omega, by omega⟩
theorem Dk.zero : Dk 0 [] 0 0 0 0 0 0 := ⟨by rfl, by simp, by omega, by omega, by omega⟩
end Go.Proofs.Ytdlmincaplbpgaa.Q
namespace Go.Proofs.Ytdlmincaplbpgaa.Q
open Go.RowKit Go.Proofs.YtdlmincaplbpgaaW.PrintWords Go.Proofs.YtdlmincaplbpgaaW.PrintLast
set_option linter.unusedVariables false
set_option linter.unusedSimpArgs false
theorem spec_BookOk.eq {k : Nat} (hk : 42 ≤ k) (l : List S54) (f d o b s t : Int) (hl : l.length < 8796093022208) : spec_BookOk.f k l f d o b s t = some (bkOk l f d o b s t) := by
  unfold spec_BookOk.f bkOk
  cases h : Bk.tally l with
  | none =>
    obtain ⟨y, e⟩ := spec_l37Count.f_no hk l hl h
    rw [e, Option.bind_some]
    simp
  | some x =>
    rw [spec_l37Count.f_ok hk l x h, Option.bind_some]
    simp only [if_true]
    cases hA : (x.f == f && (x.d == d && x.o == o)) with
    | false => simp
    | true =>
      simp only [if_true, Bool.true_and]
      by_cases h1 : x.b = b
      · rw [if_pos h1]
        by_cases h2 : x.s = s
        · rw [if_pos h2]; simp [h1, h2]
        · rw [if_neg h2]; simp [h2]
      · rw [if_neg h1]; simp [h1]
theorem spec_Enter.eq {j : Nat} (hk : 42 ≤ j) (l : List S54) (f d o b s t k n : Int) (hl : l.length + 1 < 8796093022208) : spec_Enter.f j l f d o b s t k n = some (entM l f d o b s t k n) := by
  unfold spec_Enter.f entM
  rw [if_pos (by omega), if_pos hl, spec_BookOk.eq hk l f d o b s t (by omega)]
  have hcp : spec_l37Copy.f l f d o b s t = some (l, f, d, o, b, s, t) := by
    unfold spec_l37Copy.f
    rw [Option.bind_some, if_pos (by simp; omega)]; simp
  cases hT : Bk.tally (l ++ [⟨k, n⟩]) with
  | none =>
    obtain ⟨y, e⟩ := spec_l37Count.f_no hk (l ++ [⟨k, n⟩]) (by simp; omega) hT
    rw [e, Option.bind_some, Option.bind_some, hcp]
    cases bkOk l f d o b s t <;> simp
  | some x =>
    rw [spec_l37Count.f_ok hk _ x hT, Option.bind_some, Option.bind_some, hcp]
    cases bkOk l f d o b s t <;> simp
theorem impl_Enter.eq (l : List S54) (f d o b s t k n : Int) (hl : l.length + 1 < 8796093022208) : impl_Enter.f l f d o b s t k n = some (entM l f d o b s t k n) := by
  unfold impl_Enter.f entM impl_BookOk.f impl_bookCopy.f impl_counted.f
  rw [if_pos (by omega), Option.bind_some]
  cases hB : bkOk l f d o b s t with
  | false => simp [show l.length < 8796093022208 by omega]
  | true =>
    simp only [if_true]
    rw [if_pos (by omega), Option.bind_some]
    simp only
    rw [if_pos hl, if_pos (by simp; omega), Option.bind_some]
    unfold Bk.tally
    cases hT : Bk.zero.run (l ++ [⟨k, n⟩]) with
    | none => simp
    | some x =>
      simp only
      by_cases h4 : (l ++ [(⟨k, n⟩ : S54)]).length ≤ 40
      · rw [if_pos h4]; simp only; rw [if_pos (by simp at h4 ⊢; omega)]
      · rw [if_neg h4]; simp only; rw [if_neg (by simp at h4 ⊢; omega)]; rfl
theorem spec_l37Book.run (l0 : List Int) : ∀ (n : Nat) (j : Nat) (k : Nat) (i h : Int) (l : List S54) (f d o b s t : Int), n ≤ 11 → n + 43 ≤ k → CurOk l0 i → Dk j l f d o b s t → j + n ≤ 11 → ∃ l' f' d' o' b' s' t' i' h', spec_l37Book.l0 k n l0 i h l f d o b s t = some (l', f', d', o', b', s', t', i', h') ∧ Dk 11 l' f' d' o' b' s' t' ∧ CurOk l0 i' := by
  intro n
  induction n with
  | zero =>
    intro j k i h l f d o b s t h1 h2 hc hd hj
    obtain ⟨k, rfl⟩ : ∃ m, k = m + 1 := ⟨k - 1, by omega⟩
    unfold spec_l37Book.l0
    rw [if_neg (by omega)]
    exact ⟨_, _, _, _, _, _, _, _, _, rfl, ⟨hd.ok, by have := hd.len; omega, hd.nn, hd.sum, by have := hd.top; omega⟩, hc⟩
  | succ n ih =>
    intro j k i h l f d o b s t h1 h2 hc hd hj
    obtain ⟨k, rfl⟩ : ∃ m, k = m + 1 := ⟨k - 1, by omega⟩
    unfold spec_l37Book.l0
    rw [if_pos (by omega)]
    obtain ⟨kk, nn, i1, h1', e, hkk, hnn, hc1⟩ := spec_l37Event.ok h hc
    have hlen := hd.len
    rw [e, Option.bind_some, spec_Enter.eq (by omega) l f d o b s t kk nn (by omega), Option.bind_some]
    generalize hv : entM l f d o b s t kk nn = v
    obtain ⟨l', f', d', o', b', s', t', ok⟩ := v
    have hd' := hd.ent kk nn hnn hv
    simp only
    rw [show wrap64 (((n + 1 : Nat) : Int) - 1) = (n : Int) by rw [w64in _ (by omega)]; omega]
    exact ih (j + 1) k i1 h1' l' f' d' o' b' s' t' (by omega) (by omega) hc1 (by exact_mod_cast hd') (by omega)
theorem spec_l37Book.ok {s : List Int} {i : Int} (h : Int) (k : Nat) (hk : 60 ≤ k) (hc : CurOk s i) : ∃ l' f' d' o' b' s' t' i' h', spec_l37Book.f k s i h = some (l', f', d', o', b', s', t', i', h') ∧ Dk 11 l' f' d' o' b' s' t' ∧ CurOk s i' := by
  unfold spec_l37Book.f
  obtain ⟨x, i1, h1, e, hx, hc1⟩ := spec_l01Below.ok h 12 hc (by omega)
  rw [e, Option.bind_some]
  obtain ⟨n, rfl⟩ : ∃ n : Nat, x = n := ⟨x.toNat, by omega⟩
  exact spec_l37Book.run s n 0 k i1 h1 [] 0 0 0 0 0 0 (by omega) (by omega) hc1 Dk.zero (by omega)
theorem spec_DrawBook.ok (s : List Int) (hs : s.length ≤ 140737488351232) (k : Nat) (hk : 5000 ≤ k) : ∃ l f d o b s' t, spec_DrawBook.f k s = some (l, f, d, o, b, s', t) ∧ Dk 11 l f d o b s' t := by
  unfold spec_DrawBook.f
  obtain ⟨h, e, hc⟩ := spec_l01New.start s hs k (by omega)
  rw [e, Option.bind_some]
  obtain ⟨l, f, d, o, b, s', t, i', h', e2, hd, _⟩ := spec_l37Book.ok h k (by omega) hc
  simp only
  rw [e2, Option.bind_some]
  exact ⟨_, _, _, _, _, _, _, rfl, hd⟩
def cnt : List S54 → Int
  | [] => 0
  | e :: l => (if e.f0 = 4 then 1 else 0) + cnt l
theorem cnt_drop (l : List S54) (i : Nat) (hi : i < l.length) : cnt (l.drop i) = (if (rd_T54 l i).f0 = 4 then 1 else 0) + cnt (l.drop (i + 1)) := by
  rw [List.drop_eq_getElem_cons hi, cnt]
  simp [rd_T54, List.getD_eq_getElem?_getD, List.getElem?_eq_getElem hi]
theorem impl_DaysIn.run (l : List S54) (hl : l.length ≤ 40) : ∀ (n i : Nat) (c : Int) (k : Nat), l.length - i ≤ n → i ≤ l.length → n + 1 ≤ k → 0 ≤ c → c ≤ i → impl_DaysIn.l0 k c l l.length i = some (c + cnt (l.drop i)) := by
  intro n
  induction n with
  | zero =>
    intro i c k h1 h2 h3 h4 h5
    obtain rfl : i = l.length := by omega
    obtain ⟨k, rfl⟩ : ∃ m, k = m + 1 := ⟨k - 1, by omega⟩
    unfold impl_DaysIn.l0
    rw [if_neg (by omega), List.drop_length]; simp [cnt]
  | succ n ih =>
    intro i c k h1 h2 h3 h4 h5
    obtain ⟨k, rfl⟩ : ∃ m, k = m + 1 := ⟨k - 1, by omega⟩
    by_cases hi : i < l.length
    · unfold impl_DaysIn.l0
      rw [if_pos (by omega), if_pos (by omega), if_pos (by omega), w64in ((i : Int) + 1) (by omega), cnt_drop l i hi]
      by_cases hk : (rd_T54 l i).f0 = 4
      · rw [if_pos hk, if_pos hk, w64in (c + 1) (by omega)]
        have := ih (i + 1) (c + 1) k (by omega) (by omega) (by omega) (by omega) (by omega)
        rw [show ((i + 1 : Nat) : Int) = (i : Int) + 1 by omega] at this
        rw [this]; congr 1; omega
      · rw [if_neg hk, if_neg hk]
        have := ih (i + 1) c k (by omega) (by omega) (by omega) (by omega) (by omega)
        rw [show ((i + 1 : Nat) : Int) = (i : Int) + 1 by omega] at this
        rw [this]; congr 1; omega
    · obtain rfl : i = l.length := by omega
      unfold impl_DaysIn.l0
      rw [if_neg (by omega), List.drop_length]; simp [cnt]
theorem laws_at.ok (s : List Int) (hs : s.length ≤ 140737488351232) (hw : ∀ x ∈ s, (Lit.int .u8 x).wf = true) (a : Int) (ha : 0 ≤ a ∧ a ≤ 1000000) : ∃ v, laws_at.f s a = some v ∧ 0 ≤ v ∧ v ≤ 255 := by
  unfold laws_at.f
  by_cases h0 : (s.length : Int) = 0
  · rw [if_pos h0]; exact ⟨0, rfl, by omega, by omega⟩
  rw [if_neg h0, w64in (a * 5) (by omega), w64in (a * 5 + 1) (by omega)]
  have i0 : 0 ≤ Int.tmod (a * 5 + 1) (s.length : Int) := Int.tmod_nonneg _ (by omega)
  have i1 : Int.tmod (a * 5 + 1) (s.length : Int) < s.length := Int.tmod_lt_of_pos _ (by omega)
  rw [if_pos i0, if_pos i1]
  generalize Int.tmod (a * 5 + 1) (s.length : Int) = i at i0 i1
  have hx := hw (rd s i) (by
    unfold rd
    obtain ⟨j, rfl⟩ : ∃ j : Nat, i = j := ⟨i.toNat, by omega⟩
    have hj : j < s.length := by omega
    simp [List.getD_eq_getElem?_getD, List.getElem?_eq_getElem hj])
  have hb : 0 ≤ rd s i ∧ rd s i ≤ 255 := by simpa [Lit.wf, IntKind.min, IntKind.max, IntKind.signed, IntKind.bits] using hx
  exact ⟨_, rfl, by rw [w64in _ (by omega)]; omega⟩
theorem laws_FnBooks.rounds (l : List S54) (hl : l.length ≤ 40) (f d o b s t : Int) (x1 x2 x3 x4 : List S54 × Int × Int × Int × Int × Int × Int × Bool) (x5 : Int × Int × Int × Int × Int × Int × Bool) : ∀ (n i : Nat) (c : Int) (k : Nat), l.length - i = n → i ≤ l.length → 0 ≤ c → c ≤ i → laws_FnBooks.l1 (k + n) (l, f, d, o, b, s, t) x1 x2 x3 x4 x5 c i = laws_FnBooks.l1 k (l, f, d, o, b, s, t) x1 x2 x3 x4 x5 (c + cnt (l.drop i)) l.length := by
  intro n
  induction n with
  | zero =>
    intro i c k h1 h2 h3 h4
    obtain rfl : i = l.length := by omega
    rw [List.drop_length]; simp [cnt]
  | succ n ih =>
    intro i c k h1 h2 h3 h4
    have hi : i < l.length := by omega
    rw [show k + (n + 1) = (k + n) + 1 by omega]
    conv => lhs; unfold laws_FnBooks.l1
    simp only
    rw [if_pos (by rw [decide_eq_true_eq]; omega), if_pos (by omega), if_pos (by omega), cnt_drop l i hi, w64in ((i : Int) + 1) (by omega)]
    have hbt : ∀ b : Bool, laws_btoi.f b = some (if b = true then 1 else 0) := by intro b; unfold laws_btoi.f; cases b <;> rfl
    rw [hbt, Option.bind_some]
    by_cases hk : (rd_T54 l i).f0 = 4
    · rw [if_pos (by simpa using hk), if_pos hk, w64in (c + 1) (by omega)]
      have := ih (i + 1) (c + 1) k (by omega) (by omega) (by omega) (by omega)
      rw [show ((i + 1 : Nat) : Int) = (i : Int) + 1 by omega] at this
      rw [this]; congr 1; omega
    · rw [if_neg (by simpa using hk), if_neg hk, w64in (c + 0) (by omega)]
      have := ih (i + 1) (c + 0) k (by omega) (by omega) (by omega) (by omega)
      rw [show ((i + 1 : Nat) : Int) = (i : Int) + 1 by omega] at this
      rw [this]; congr 1; omega
theorem laws_FnBooks.pure (l0 : List Int) (h2 : l0.length ≤ 140737488351232) (hw : ∀ x ∈ l0, (Lit.int .u8 x).wf = true) : ∃ k, laws_FnBooks.f k l0 = some true := by
  obtain ⟨K, hK⟩ : ∃ K, K = 5999 := ⟨_, rfl⟩
  refine ⟨K + 1, ?_⟩
  unfold laws_FnBooks.f laws_big.f
  rw [Option.bind_some]
  by_cases hbig : (l0.length : Int) > 1048576
  · rw [if_pos (by simpa using hbig)]
  rw [if_neg (by simpa using hbig)]
  obtain ⟨l, f, d, o, b, s, t, e, hd⟩ := spec_DrawBook.ok l0 h2 (K + 1) (by omega)
  obtain ⟨v, ev, hv0, hv1⟩ := laws_at.ok l0 h2 hw 0 (by omega)
  obtain ⟨hok, hlen, hnn, hsum, htop⟩ := id hd
  have hBO : impl_BookOk.f l f d o b s t = some true := by
    unfold impl_BookOk.f; rw [if_pos (by omega), hok]
  have hn0 : 0 ≤ Int.tmod v 50 := Int.tmod_nonneg _ hv0
  have hn1 : Int.tmod v 50 < 50 := Int.tmod_lt_of_pos _ (by omega)
  rw [e, Option.bind_some]
  simp only
  rw [hBO, Option.bind_some, ev, if_neg, Option.bind_some]
  rotate_left
  · rw [w64in (s + t) (by omega), w64in (s + t + f) (by omega), w64in (s + t + f + d) (by omega), w64in (s + t + f + d + o) (by omega)]
    simp; omega
  generalize Int.tmod v 50 = n at hn0 hn1
  have E1 : evOn f d o 1 n = (f + n, d, o, n, 0, 0, true) := by
    unfold evOn
    rw [if_pos (by rw [Bool.and_eq_true, rOk_iff, inR_iff]; omega), if_pos rfl, if_pos (by omega)]
  have E2 : evOn f d o 2 (f + d) = (0, 0, o, 0, f + d, 0, true) := by
    unfold evOn mn
    rw [if_pos (by rw [Bool.and_eq_true, rOk_iff, inR_iff]; omega), if_neg (by decide), if_pos rfl, if_pos (by omega)]
    by_cases h : f + d < f
    · exact absurd h (by omega)
    · simp; omega
  have E3 : (evOn f d o 2 (f + d + 1)).2.2.2.2.2.2 = false := by
    unfold evOn
    rw [if_pos (by rw [Bool.and_eq_true, rOk_iff, inR_iff]; omega), if_neg (by decide), if_pos rfl, if_neg (by omega)]
  have E4 : evOn f d o 4 0 = (0, f, d, 0, 0, o, true) := by
    unfold evOn
    rw [if_pos (by rw [Bool.and_eq_true, rOk_iff, inR_iff]; omega), if_neg (by decide), if_neg (by decide), if_neg (by decide), if_pos rfl, if_pos rfl]
  have E5 : evOn f d o 3 o = (f, d, 0, 0, o, 0, true) := by
    unfold evOn mn
    rw [if_pos (by rw [Bool.and_eq_true, rOk_iff, inR_iff]; omega), if_neg (by decide), if_neg (by decide), if_pos rfl, if_pos (by omega)]
    simp
  have hl40 : l.length < 40 := by omega
  have M1 := entM_ok hok 1 n E1
  rw [if_pos ⟨hl40, rfl⟩] at M1
  have M2 := entM_ok hok 2 (f + d) E2
  rw [if_pos ⟨hl40, rfl⟩] at M2
  have M4 := entM_ok hok 4 0 E4
  rw [if_pos ⟨hl40, rfl⟩] at M4
  have M3 : entM l f d o b s t 2 (f + d + 1) = (l, f, d, o, b, s, t, false) := by
    generalize hv3 : evOn f d o 2 (f + d + 1) = v3 at E3
    obtain ⟨q1, q2, q3, q4, q5, q6, q7⟩ := v3
    rw [entM_ok hok 2 (f + d + 1) hv3, if_neg]
    intro hh; simp only at E3; rw [E3] at hh; exact absurd hh.2 (by decide)
  have hB1 := entM_bkOk (k := 1) (n := n) hok
  rw [M1] at hB1
  rw [impl_Enter.eq _ _ _ _ _ _ _ _ _ (by omega), Option.bind_some, M1]
  simp only
  have hlen40 : decide ((l.length : Int) < 40) = true := by rw [decide_eq_true_eq]; omega
  rw [hlen40, if_neg (by decide), if_pos trivial]
  have hST : impl_Strike.f (K + 1) (l ++ [⟨1, n⟩]) (f + n) d o (b + n) (s + 0) (t + 0) = some (l, f, d, o, b, s, t, true) := by
    unfold impl_Strike.f
    have : impl_BookOk.f (l ++ [⟨1, n⟩]) (f + n) d o (b + n) (s + 0) (t + 0) = some true := by
      unfold impl_BookOk.f; rw [if_pos (by simp; omega), hB1]
    rw [this, Option.bind_some, if_pos rfl]
    have hz : (((l ++ [(⟨1, n⟩ : S54)]).length : Int) == 0) = false := by simp; omega
    rw [hz]
    unfold impl_Strike.j0
    dsimp only
    have hwl : wrap64 (((l ++ [(⟨1, n⟩ : S54)]).length : Int) - 1) = (l.length : Int) := by
      rw [List.length_append, List.length_singleton, w64in _ (by omega)]; omega
    rw [if_neg (by decide), hwl, if_pos (by omega), if_pos (by simp; omega)]
    have htk : (l ++ [(⟨1, n⟩ : S54)]).take ((l.length : Int)).toNat = l := by simp
    rw [htk]
    unfold impl_counted.f
    have hr := (tally_len ((bkOk_iff _ _ _ _ _ _ _).1 hok)).2
    rw [if_pos (by omega), hr, Option.bind_some]
    simp only
    rw [decide_eq_true (by omega)]
  rw [hST, Option.bind_some]
  simp only
  rw [w64in (f + n) (by omega), w64in (b + n) (by omega), w64in (f + d) (by omega), w64in (f + d + 1) (by omega)]
  rw [if_neg (by simp)]
  rw [impl_Enter.eq _ _ _ _ _ _ _ _ _ (by omega), Option.bind_some, M2, impl_Enter.eq _ _ _ _ _ _ _ _ _ (by omega), Option.bind_some, M3, impl_Enter.eq _ _ _ _ _ _ _ _ _ (by omega), Option.bind_some, M4]
  unfold impl_EventOn.f
  rw [E5, Option.bind_some]
  have hrd := laws_FnBooks.rounds l (by omega) f d o b s t (l ++ [⟨2, f + d⟩], 0, 0, o, b + 0, s + (f + d), t + 0, true) (l ++ [⟨1, n⟩], f + n, d, o, b + n, s + 0, t + 0, true) (l, f, d, o, b, s, t, false) (l ++ [⟨4, 0⟩], 0, f, d, b + 0, s + 0, t + o, true) (f, d, 0, 0, o, 0, true) l.length 0 0 ((K + 1) - l.length) (by omega) (by omega) (by omega) (by omega)
  rw [show (K + 1) - l.length + l.length = (K + 1) by omega] at hrd
  rw [show ((0 : Nat) : Int) = 0 by rfl] at hrd
  rw [hrd]
  obtain ⟨k, hk⟩ : ∃ k, (K + 1) - l.length = k + 1 := ⟨K - l.length, by omega⟩
  rw [hk]
  unfold laws_FnBooks.l1
  simp only
  rw [if_neg (by simp), w64in (s + f) (by omega), w64in (s + f + d) (by omega), w64in (t + o) (by omega), w64in (b + 1) (by omega)]
  rw [if_pos (by simp; omega)]
  have hBad : impl_BookOk.f l f d o (b + 1) s t = some false := by
    unfold impl_BookOk.f
    rw [if_pos (by omega)]
    congr 1
    cases hc : bkOk l f d o (b + 1) s t with
    | false => rfl
    | true =>
      have h1 := (bkOk_iff _ _ _ _ _ _ _).1 hc
      rw [(bkOk_iff _ _ _ _ _ _ _).1 hok] at h1
      simp at h1
      omega
  rw [hBad, Option.bind_some, if_neg (by decide)]
  unfold impl_DaysIn.f
  rw [hBO, Option.bind_some, if_pos rfl]
  have hdy := impl_DaysIn.run l (by omega) l.length 0 0 k (by omega) (by omega) (by omega) (by omega) (by omega)
  rw [show ((0 : Nat) : Int) = 0 by rfl] at hdy
  rw [hdy, Option.bind_some]
  simp
end Go.Proofs.Ytdlmincaplbpgaa.Q
