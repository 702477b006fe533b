import Derived.Test.YtdlmincaplbpgaaProg
import Derived.Below
import Derived.StillTail
import Derived.Deep.Draws
import Derived.Deep.AppendLies
import Derived.Maps.AppendAt
import Derived.OwnWalk
import Derived.Laws.BytesArg
import Derived.Laws.MakeOwn
import Derived.Laws.OwnMore
import Derived.Deep.OwnRows
import Derived.Tactics
import Derived.Lib.ConvBytes
import Derived.Laws.Slices
import Derived.WalkKit
import Derived.KernelRfl
import Derived.RowKit3
import Derived.Deep.LoopGhost
import Derived.Deep.QuietTactic
import Derived.BigQuiet
import Derived.WideLaws
import Derived.Deep.DeepCutAuto
import Derived.Deep.CutBlock
import Derived.Deep.RegionHeld3
import Derived.Laws.Rows
import Derived.Lib.AppendStr
import Derived.ArgAppend
import Derived.Laws.IdiomCopy
import Derived.OrdersHeld
import Derived.Laws.BitsLemmas
import Derived.RowKit
import Derived.Test.YtdlmincaplbpgaaCFnBooks1
import Derived.Test.YtdlmincaplbpgaaCFnBooks2
import Derived.Test.YtdlmincaplbpgaaCFnBooks3
namespace Go.Proofs.Ytdlmincaplbpgaa.Q
open Go.RowKit Go.Proofs.YtdlmincaplbpgaaW.PrintWords Go.Proofs.YtdlmincaplbpgaaW.PrintLast Go.Proofs.YtdlmincaplbpgaaW.PrintMore
attribute [local go_sem] max2_int min2_int max_two min_two max_three min_three max_four min_four
set_option linter.unusedVariables false
set_option linter.unusedSimpArgs false
def errW : Option Int → Value
  | none => .nilIface
  | some c => .iface 0 (.int .i64 c)
theorem errW_none : errW none = .nilIface := rfl
theorem errW_some (c : Int) : errW (some c) = .iface 0 (.int .i64 c) := rfl
theorem info54 : (Try.prog.info? 54).map (fun i => (i.zero, i.size, i.bytes)) = some (some (.agg #[(.int .i64 0), (.int .i64 0)]), 2, 16) := by kernel_rfl
structure S103 where
  f0 : (List Int)
  f1 : Int
  f2 : Int
structure S54 where
  f0 : Int
  f1 : Int
def z54 : S54 := ⟨(0 : Int), (0 : Int)⟩
def k54 : Kd S54 := Kd.iso (Kd.pair (Kd.int .i64) (Kd.int .i64)) (fun x : S54 => (x.f0, x.f1))
theorem k54_open {w : World} {x : S54} {cs : List Value} (h : k54.K w x cs) : cs = [.int .i64 x.f0, .int .i64 x.f1] := by
  obtain ⟨_, _, rfl, rfl, rfl⟩ := h
  exact rfl
theorem k54_mkM (w : World) (base : Nat) (ok : Nat → Prop) (x : S54)  : k54.M w base ok x [.int .i64 x.f0, .int .i64 x.f1] := ⟨[.int .i64 x.f0], [.int .i64 x.f1], rfl, rfl, rfl⟩
def rd_T54 (xs : List S54) (i : Int) : S54 := xs.getD i.toNat z54
theorem at_T54 {w : World} {A : Option Addr} {n : Nat} {xs : List S54} (h : Kd.C k54 w A n xs) (i : Int) (h0 : 0 ≤ i) (h1 : i < n) : ∃ ad , A = some ad ∧ w.cell? (ad.add (i.toNat * 2)) = some (.int .i64 (rd_T54 xs i).f0) ∧ w.cell? ⟨(ad.add (i.toNat * 2)).block, (ad.add (i.toNat * 2)).off + 1, none⟩ = some (.int .i64 (rd_T54 xs i).f1) := by
  obtain ⟨ad, c, e, _, hK, hc0⟩ := Kd.C_get h z54 i h0 h1
  have hc : ∀ j u, c[j]? = some u → w.cell? (ad.add (i.toNat * 2 + j)) = some u := hc0
  obtain rfl := k54_open hK
  exact ⟨ad, e, hc 0 _ rfl, by rw [← add_field _ _ 1 (by omega)]; exact hc 1 _ rfl⟩
structure S33 where
  f0 : Int
  f1 : Int
  f2 : Int
structure S35 where
  f0 : (List S54)
  f1 : S33
  f2 : Int
  f3 : Int
  f4 : Int
structure S26 where
  f0 : (List Int)
structure S28 where
  f0 : Int
  f1 : Int
  f2 : Int
structure S30 where
  f0 : Int
  f1 : Int
structure S37 where
  f0 : S26
  f1 : S28
  f2 : S30
  f3 : S35
  f4 : Int
structure S42 where
  f0 : Int
  f1 : Int
  f2 : Int
end Go.Proofs.Ytdlmincaplbpgaa.Q
namespace Go.Proofs.Ytdlmincaplbpgaa.Q
open Go.RowKit Go.Proofs.YtdlmincaplbpgaaW.PrintWords Go.Proofs.YtdlmincaplbpgaaW.PrintLast Go.Proofs.YtdlmincaplbpgaaW.PrintMore
attribute [local go_sem] max2_int min2_int max_two min_two max_three min_three max_four min_four
set_option linter.unusedVariables false
set_option linter.unusedSimpArgs false
theorem eqA33 (d : Nat) (w : World) (x0 y0 : Int) (x1 y1 : Int) (x2 y2 : Int) :
    (Op.equalIn (d + 2) 33 (.agg #[.int .i64 x0, .int .i64 x1, .int .i64 x2]) (.agg #[.int .i64 y0, .int .i64 y1, .int .i64 y2])).run Try.prog w = .ok (x0 == y0 && (x1 == y1 && (x2 == y2))) w := by
  refine eqA_of Try.underlying33 (by kernel_rfl) ?_
  refine eqf_cons (by rfl) (by go_simp; rfl) (by go_simp; rfl) (by go_simp) ?_
  refine eqf_cons (by rfl) (by go_simp; rfl) (by go_simp; rfl) (by go_simp) ?_
  exact eqf_last (by rfl) (by go_simp; rfl) (by go_simp; rfl) (by go_simp)
end Go.Proofs.Ytdlmincaplbpgaa.Q
namespace Go.Proofs.Ytdlmincaplbpgaa.Q
open Go.RowKit Go.Proofs.YtdlmincaplbpgaaW.PrintWords Go.Proofs.YtdlmincaplbpgaaW.PrintLast Go.Proofs.YtdlmincaplbpgaaW.PrintMore
attribute [local go_sem] max2_int min2_int max_two min_two max_three min_three max_four min_four
set_option linter.unusedVariables false
set_option linter.unusedSimpArgs false
def impl_in.f (a0 : Int) (a1 : Int) (a2 : Int) : Option (Bool) := if a1 ≤ a0 then (some (decide (a0 ≤ a2))) else (some false)
set_option maxHeartbeats 8000000 in
set_option maxRecDepth 100000 in
theorem impl_in.calls (a0 : Int) (a1 : Int) (a2 : Int) (r : Bool) (w : World) (h : impl_in.f a0 a1 a2 = some r) :
    Calls Try.prog 53 #[.int .i64 a0, .int .i64 a1, .int .i64 a2] w fun e w' => e = .returned (.bool r) ∧ Drawn0 w w' := by
  have H : (if a1 ≤ a0 then (some (decide (a0 ≤ a2))) else (some false)) = some r := h
  clear h
  by_cases c4 : a1 ≤ a0
  · rw [if_pos c4] at H
    have c4b0 : decide (a1 ≤ a0) = true := decide_eq_true c4
    clear c4
    obtain rfl := Option.some.inj H
    go_enter Try.func53, Try.ntmps53
    go_wp2
    go_ret
    exact ⟨by first | rfl | (simp; done) | (simp [*]; done), by repeat (first | exact Drawn0.refl _ | apply Drawn0.step)⟩
  · rw [if_neg c4] at H
    have c4b0 : decide (a1 ≤ a0) = false := decide_eq_false c4
    clear c4
    obtain rfl := Option.some.inj H
    go_enter Try.func53, Try.ntmps53
    go_wp2
    go_ret
    exact ⟨by first | rfl | (simp; done) | (simp [*]; done), by repeat (first | exact Drawn0.refl _ | apply Drawn0.step)⟩
end Go.Proofs.Ytdlmincaplbpgaa.Q
namespace Go.Proofs.Ytdlmincaplbpgaa.Q
open Go.RowKit Go.Proofs.YtdlmincaplbpgaaW.PrintWords Go.Proofs.YtdlmincaplbpgaaW.PrintLast Go.Proofs.YtdlmincaplbpgaaW.PrintMore
attribute [local go_sem] max2_int min2_int max_two min_two max_three min_three max_four min_four
set_option linter.unusedVariables false
set_option linter.unusedSimpArgs false
theorem impl_allIn.pred (x low high : Int) (b b2 : Nat) (W : World) (hl : W.cell? ⟨b, 0, none⟩ = some (.int .i64 low)) (hh : W.cell? ⟨b2, 0, none⟩ = some (.int .i64 high)) :
    Calls Try.prog 108 #[.int .i64 x, .pointer (some ⟨b, 0, none⟩), .pointer (some ⟨b2, 0, none⟩)] W fun e w' => e = .returned (.bool (!(decide (low ≤ x) && decide (x ≤ high)))) ∧ Drawn0 W w' := by
  have hin : impl_in.f x low high = some (decide (low ≤ x) && decide (x ≤ high)) := by
    unfold impl_in.f
    by_cases h : low ≤ x <;> simp [h]
  generalize (decide (low ≤ x) && decide (x ≤ high)) = r at hin ⊢
  have H := Aside0.mk hin
  clear hin
  go_enter Try.func108, Try.ntmps108
  go_wp2_with (go_at_call 53; refine (impl_in.calls _ _ _ _ _ H.out).mono ?_; rintro e w' ⟨rfl, ⟨q, rfl⟩⟩)
  go_ret
  exact ⟨rfl, ⟨q, rfl⟩⟩
def impl_allIn.f (l0 : List Int) (a1 : Int) (a2 : Int) : Option (Bool) := some (l0.all fun n => decide (a1 ≤ n) && decide (n ≤ a2))
theorem all_drop_cons (xs : List Int) (i : Nat) (hi : i < xs.length) (p : Int → Bool) : (xs.drop i).all p = (p (rd xs i) && (xs.drop (i + 1)).all p) := by
  rw [List.drop_eq_getElem_cons hi, List.all_cons]
  simp [rd, List.getD_eq_getElem?_getD, List.getElem?_eq_getElem hi]
set_option maxHeartbeats 1000000 in
theorem impl_allIn.index (A0 : Option Addr) (c0 : Nat) (l0 : List Int) (low high : Int) (b b2 : Nat) (w : World) (hr0 : Kd.C (Kd.int .i64) w A0 l0.length l0)
    (hl : w.cell? ⟨b, 0, none⟩ = some (.int .i64 low)) (hh : w.cell? ⟨b2, 0, none⟩ = some (.int .i64 high)) :
    Calls Try.prog 111 #[.slice A0 l0.length c0, .func (.func 108) #[] #[.pointer (some ⟨b, 0, none⟩), .pointer (some ⟨b2, 0, none⟩)]] w fun e w' => (∃ j : Int, e = .returned (.int .i64 j) ∧ decide (0 ≤ j) = !(l0.all fun n => decide (low ≤ n) && decide (n ≤ high))) ∧ Drawn0 w w' := by
  have hmax := Kd.C_max hr0
  have HR := Aside0.mk hr0
  clear hr0
  go_enter Try.func111, Try.ntmps111
  go_wp2
  go_loopg [5, 8] l0.length (fun gg _ s8 wr => ∃ k q : Nat, k ≤ l0.length ∧ l0.length - k ≤ gg ∧ s8 = .int .i64 k ∧ wr = w.drewN q ∧ Aside0 ((l0.all fun n => decide (low ≤ n) && decide (n ≤ high)) = (l0.drop k).all fun n => decide (low ≤ n) && decide (n ≤ high)))
  case atStart => exact ⟨0, 0, Nat.zero_le _, by omega, rfl, rfl, ⟨rfl⟩⟩
  case round =>
    obtain ⟨k, q, hk, hg, rfl, rfl, HA⟩ := hrel
    by_cases hlt : k < l0.length
    · have hlt' : (k : Int) < (l0.length : Int) := by omega
      obtain ⟨ad, hA, hc⟩ := Kd.at_int HR.out (k : Int) (by omega) hlt'
      subst hA
      rw [Int.toNat_natCast] at hc
      have hd := all_drop_cons l0 k hlt (fun n => decide (low ≤ n) && decide (n ≤ high))
      generalize rd l0 (k : Int) = x at hc hd
      have HD := Aside0.mk hd
      clear hd
      cases hp : (decide (low ≤ x) && decide (x ≤ high)) with
      | true =>
        have HP := Aside0.mk hp
        clear hp
        go_wp2_with (go_at_call 108; refine (impl_allIn.pred x low high b b2 _ ?_ ?_).mono ?_; assumption; assumption; rintro e w' ⟨rfl, ⟨q', rfl⟩⟩; rw [HP.out])
        go_roundg (l0.length - (k + 1))
        case measure => omega
        case rel => exact ⟨k + 1, _, by omega, by omega, by go_num, rfl, ⟨by rw [HA.out, HD.out, HP.out]; simp⟩⟩
      | false =>
        have HP := Aside0.mk hp
        clear hp
        go_wp2_with (go_at_call 108; refine (impl_allIn.pred x low high b b2 _ ?_ ?_).mono ?_; assumption; assumption; rintro e w' ⟨rfl, ⟨q', rfl⟩⟩; rw [HP.out])
        go_ret
        exact ⟨⟨_, rfl, by rw [HA.out, HD.out, HP.out]; simp⟩, ⟨_, rfl⟩⟩
    · have : k = l0.length := by omega
      subst this
      have hlt' : ¬ ((l0.length : Int) < (l0.length : Int)) := by omega
      go_wp2
      go_ret
      exact ⟨⟨_, rfl, by rw [HA.out]; simp⟩, ⟨_, rfl⟩⟩
set_option maxHeartbeats 1000000 in
theorem impl_allIn.calls (A0 : Option Addr) (c0 : Nat) (l0 : List Int) (a1 : Int) (a2 : Int) (r : Bool) (w : World) (hr0 : Kd.C (Kd.int .i64) w A0 l0.length l0) (hc0 : l0.length ≤ c0) (h : impl_allIn.f l0 a1 a2 = some r) :
    Calls Try.prog 92 #[.slice A0 l0.length c0, .int .i64 a1, .int .i64 a2] w fun e w' => e = .returned (.bool r) ∧ Below w.heap.size w w' := by
  have HR := Aside0.mk hr0
  clear hr0
  unfold impl_allIn.f at h
  obtain rfl := Option.some.inj h
  clear h
  have h107 : Calls Try.prog 107 #[.slice A0 l0.length c0, .func (.func 108) #[] #[.pointer (some ⟨w.heap.size, 0, none⟩), .pointer (some ⟨w.heap.size + 1, 0, none⟩)]] ((w.alloc (.cells #[.int .i64 a1] 3)).alloc (.cells #[.int .i64 a2] 3)) fun e w' =>
      e = .returned (.bool (!(l0.all fun n => decide (a1 ≤ n) && decide (n ≤ a2)))) ∧ Drawn0 ((w.alloc (.cells #[.int .i64 a1] 3)).alloc (.cells #[.int .i64 a2] 3)) w' := by
    have h111 := impl_allIn.index A0 c0 l0 a1 a2 w.heap.size (w.heap.size + 1) ((w.alloc (.cells #[.int .i64 a1] 3)).alloc (.cells #[.int .i64 a2] 3)) (Kd.C_alloc (Kd.C_alloc HR.out _) _) (by simp) (by simp)
    generalize (l0.all fun n => decide (a1 ≤ n) && decide (n ≤ a2)) = r at h111 ⊢
    go_enter Try.func107, Try.ntmps107
    go_wp2_with (go_at_call 111; refine h111.mono ?_; rintro e w' ⟨⟨j, rfl, hj⟩, ⟨q, rfl⟩⟩)
    go_ret
    exact ⟨by first | rfl | rw [hj], ⟨q, rfl⟩⟩
  generalize (l0.all fun n => decide (a1 ≤ n) && decide (n ≤ a2)) = r at h107 ⊢
  go_enter Try.func92, Try.ntmps92
  go_wp2_with (go_at_call 107; refine h107.mono ?_; rintro e w' ⟨rfl, ⟨q, rfl⟩⟩)
  go_ret
  exact ⟨by simp, pw_below_drewN (below_alloc (below_alloc (Below.refl _ _) _) _) q⟩
end Go.Proofs.Ytdlmincaplbpgaa.Q
namespace Go.Proofs.Ytdlmincaplbpgaa.Q
open Go.RowKit Go.Proofs.YtdlmincaplbpgaaW.PrintWords Go.Proofs.YtdlmincaplbpgaaW.PrintLast Go.Proofs.YtdlmincaplbpgaaW.PrintMore
attribute [local go_sem] max2_int min2_int max_two min_two max_three min_three max_four min_four
set_option linter.unusedVariables false
set_option linter.unusedSimpArgs false
def impl_RackOk.f (a0_0 : Int) (a0_1 : Int) (a0_2 : Int) : Option (Bool) := (impl_allIn.f (([a0_0, a0_1, a0_2] : List Int)) 0 10000).bind fun t105 => (some t105)
set_option maxHeartbeats 8000000 in
set_option maxRecDepth 100000 in
theorem impl_RackOk.calls (a0_0 : Int) (a0_1 : Int) (a0_2 : Int) (r : Bool) (w : World) (h : impl_RackOk.f a0_0 a0_1 a0_2 = some r) :
    Calls Try.prog 57 #[.agg #[.int .i64 a0_0, .int .i64 a0_1, .int .i64 a0_2]] w fun e w' => e = .returned (.bool r) ∧ Below w.heap.size w w' := by
  have hu33 := Try.underlying33
  have HB := Aside0.mk (Below.refl w.heap.size w)
  have H : ((impl_allIn.f (([a0_0, a0_1, a0_2] : List Int)) 0 10000).bind fun t105 => (some t105)) = some r := h
  clear h
  obtain ⟨y102, hy102⟩ : ∃ y_ : List Int, y_ = (([a0_0, a0_1, a0_2] : List Int)) := ⟨_, rfl⟩
  replace H : ((impl_allIn.f y102 0 10000).bind fun t105 => (some t105)) = some r := by first | (rw [hy102]; with_reducible exact H) | (have H2_ := (Option.bind_some _ _).symm.trans H; rw [hy102]; with_reducible exact H2_) | (have H2_ := (Option.bind_some _ _).symm.trans H; with_reducible exact H2_) | with_reducible exact H | (rw [hy102]; exact H) | exact H
  have Ny102 := Aside0.mk hy102
  clear hy102
  replace H := Option.bind_eq_some_iff.mp H
  obtain ⟨t105, A20, H⟩ := H
  replace H : (some t105) = some r := H
  have A2 := Aside0.mk A20
  clear A20
  obtain rfl := Option.some.inj H
  go_enter Try.func57, Try.ntmps57
  go_wp2_with (first | ((with_reducible refine gate_dst (N := 1) rfl ?_); refine box_event ?hg (N := 1) ?hd (cs := #[.int .i64 a0_0, .int .i64 a0_1, .int .i64 a0_2]) (t := 33) ?hr ?_; (case hd => rfl); (case hg => rfl); (case hr => first | (go_simp; done) | (go_simp; rfl)); intro gb101 hg w3 hbox hb; have n0_ := Aside0.mk (below_step (by repeat (first | (with_reducible first | exact HB.out | apply below_alloc | apply pw_below_drewN | apply below_drew1) | exact HB.out)) hb); have n1_ := Aside0.mk (hbox); have n2_ := Aside0.mk ((by rw [hg]; exact (below_size (by repeat (first | (with_reducible first | exact HB.out | apply below_alloc | apply pw_below_drewN | apply below_drew1) | exact HB.out))) : w.heap.size ≤ gb101)); have n3_ := Aside0.mk ((by rw [hg]; exact (below_size (by repeat (first | (with_reducible first | exact HB.out | apply below_alloc | apply pw_below_drewN | apply below_drew1) | exact HB.out))) : w.heap.size ≤ gb101)); clear HB; have HB := n0_; have BK101 := n1_; have GW101 := n2_; have GE101 := n3_; clear n0_ n1_ n2_ n3_; clear hb hbox hg; have hcz4_0 : w3.cell? ⟨gb101, 0, none⟩ = some (.int .i64 a0_0) := (blk_cell BK101.out 0).trans rfl; have hcz4_1 : w3.cell? ⟨gb101, 1, none⟩ = some (.int .i64 a0_1) := (blk_cell BK101.out 1).trans rfl; have hcz4_2 : w3.cell? ⟨gb101, 2, none⟩ = some (.int .i64 a0_2) := (blk_cell BK101.out 2).trans rfl; have hfz4_0 := blk_frozen BK101.out 0; have hfz4_1 := blk_frozen BK101.out 1; have hfz4_2 := blk_frozen BK101.out 2) | ((with_reducible refine gate_dst (N := 9) rfl ?_); refine Kd.R_lit (Kd.int .i64) _ 3 ?hg (N := 9) ?hd (xs := ([a0_0, a0_1, a0_2] : List Int)) (inner := [.int .i64 a0_0, .int .i64 a0_1, .int .i64 a0_2]) (ok := fun _ => True) (okp := fun _ => True) ?hr ?hp (fun _ hk => hk) trivial (Below.refl _ _) (Nat.le_refl _) (by simp) ?_; (case hd => rfl); (case hg => rfl); (case hr => first | (go_simp; done) | (go_simp; rfl)); (case hp => exact (Reps.one (show Kd.M (Kd.int .i64) _ _ _ a0_0 [.int .i64 a0_0] from rfl) (Reps.one (show Kd.M (Kd.int .i64) _ _ _ a0_1 [.int .i64 a0_1] from rfl) (Reps.one (show Kd.M (Kd.int .i64) _ _ _ a0_2 [.int .i64 a0_2] from rfl) (Reps.none _ _))))); intro v103 w5 ho6 hb hg_ hnew_; clear hg_ hnew_; (first | rw [← Ny102.out] at ho6 | (simp only [Int.reduceToNat] at ho6; rw [← Ny102.out] at ho6)); have n0_ := Aside0.mk (Kd.R_lower ho6 (below_size (by repeat (first | (with_reducible first | exact HB.out | apply below_alloc | apply pw_below_drewN | apply below_drew1 | refine below_set ?_ GE101.out) | exact HB.out)))); have n1_ := Aside0.mk (blk_below (g := gb101) (o := .cells #[.int .i64 a0_0, .int .i64 a0_1, .int .i64 a0_2] 33 (0, 0)) (by (with_reducible repeat (first | refine blk_drewN ?_ _ | refine blk_drew ?_ | refine blk_alloc ?_ _)); exact BK101.out) hb); have n2_ := Aside0.mk (below_step (by repeat (first | (with_reducible first | exact HB.out | apply below_alloc | apply pw_below_drewN | apply below_drew1 | refine below_set ?_ GE101.out) | exact HB.out)) hb); clear BK101; clear HB; have HO104 := n0_; have BK101 := n1_; have HB := n2_; clear n0_ n1_ n2_; clear hb ho6; obtain ⟨Ao7, co7, eo7⟩ := Kd.R_slice HO104.out; subst eo7) | ((with_reducible refine gate_callee (f := 92) rfl ?_); refine goesL_ (some 10) rfl rfl Try.func92 (by kernel_rfl) rfl #[.slice Ao7 y102.length co7, .int .i64 0, .int .i64 10000] rfl (by (try simp only [List.map_toArray, List.map_cons, List.map_nil]); first | done | rfl | (simp only [List.length_drop, List.length_take]; rfl)) ?_; (with_reducible refine (impl_allIn.calls _ _ y102 0 10000 t105 _ ?side1 ?side2 A2.out).mono ?_); (case side1 => repeat (first | exact (Kd.R_reads' HO104.out).2.2 | (with_reducible refine Kd.C_alloc ?_ _) | (with_reducible refine Kd.C_drewN ?_ _) | (with_reducible refine Kd.C_drew ?_))); (case side2 => exact (Kd.R_reads' HO104.out).2.1); rintro e w8 ⟨rfl, hb⟩; refine ⟨_, rfl, ?_⟩; have n0_ := Aside0.mk (Kd.R_below (by (with_reducible repeat (first | apply Kd.R_alloc | apply Kd.R_drewN | apply Kd.R_drew)); exact HO104.out) hb); have n1_ := Aside0.mk (blk_below (g := gb101) (o := .cells #[.int .i64 a0_0, .int .i64 a0_1, .int .i64 a0_2] 33 (0, 0)) (by (with_reducible repeat (first | refine blk_drewN ?_ _ | refine blk_drew ?_ | refine blk_alloc ?_ _)); exact BK101.out) hb); have n2_ := Aside0.mk (below_step (by repeat (first | (with_reducible first | exact HB.out | apply below_alloc | apply pw_below_drewN | apply below_drew1 | refine below_set ?_ GE101.out) | exact HB.out)) hb); clear HO104; clear BK101; clear HB; have HO104 := n0_; have BK101 := n1_; have HB := n2_; clear n0_ n1_ n2_; (try clear hb); (try clear hb2); (try clear hk); (try clear hi)))
  go_ret
  exact ⟨by first | rfl | (simp [errW_none, errW_some] <;> rfl) | (simp [*, errW_none, errW_some] <;> rfl), by repeat (first | (with_reducible first | exact HB.out | apply below_alloc | apply pw_below_drewN | apply below_drew1 | refine below_set ?_ GE101.out) | exact HB.out)⟩
end Go.Proofs.Ytdlmincaplbpgaa.Q
namespace Go.Proofs.Ytdlmincaplbpgaa.Q
open Go.RowKit Go.Proofs.YtdlmincaplbpgaaW.PrintWords Go.Proofs.YtdlmincaplbpgaaW.PrintLast Go.Proofs.YtdlmincaplbpgaaW.PrintMore
attribute [local go_sem] max2_int min2_int max_two min_two max_three min_three max_four min_four
set_option linter.unusedVariables false
set_option linter.unusedSimpArgs false
def impl_NextMorning.f (a0_0 : Int) (a0_1 : Int) (a0_2 : Int) (a1 : Int) : Option (Int × Int × Int × Int) := (impl_RackOk.f a0_0 a0_1 a0_2).bind fun t103 => (if t103 = true then ((impl_in.f a1 0 10000).bind fun t104 => (if t104 = true then (some (a1, a0_0, a0_1, a0_2)) else (some (a0_0, a0_1, a0_2, (-1))))) else (some (a0_0, a0_1, a0_2, (-1))))
def impl_NextMorning.T3 : Bool × List (List Nat × List Nat) := (true, [([], []), ([], []), ([1], [1]), ([], []), ([3], [3]), ([0, 2, 4], [0, 2, 4]), ([], []), ([6], [6]), ([5, 0, 1, 2, 3, 4, 5], [5]), ([7, 8, 0, 1, 2, 3, 4, 5, 6, 7, 8], [7])])
def impl_NextMorning.B3 : List Nat := [0, 0, 2, 0, 8, 31, 0, 64, 63, 511]
theorem impl_NextMorning.tab3 : rtab .any (opsOf Try.f60 3) = impl_NextMorning.T3 := by kernel_rfl
theorem impl_NextMorning.bits3 : waitsOk impl_NextMorning.T3.2 impl_NextMorning.B3 = true := by kernel_rfl
set_option maxHeartbeats 8000000 in
set_option maxRecDepth 100000 in
theorem impl_NextMorning.calls (a0_0 : Int) (a0_1 : Int) (a0_2 : Int) (a1 : Int) (r1 : Int) (r2 : Int) (r3 : Int) (r4 : Int) (w : World) (h : impl_NextMorning.f a0_0 a0_1 a0_2 a1 = some (r1, r2, r3, r4)) :
    Calls Try.prog 60 #[.agg #[.int .i64 a0_0, .int .i64 a0_1, .int .i64 a0_2], .int .i64 a1] w fun e w' => e = .returned (.tuple #[.agg #[.int .i64 r1, .int .i64 r2, .int .i64 r3], .int .i64 r4]) ∧ Below w.heap.size w w' := by
  have hu33 := Try.underlying33
  have HB := Aside0.mk (Below.refl w.heap.size w)
  have H : ((impl_RackOk.f a0_0 a0_1 a0_2).bind fun t103 => (if t103 = true then ((impl_in.f a1 0 10000).bind fun t104 => (if t104 = true then (some (a1, a0_0, a0_1, a0_2)) else (some (a0_0, a0_1, a0_2, (-1))))) else (some (a0_0, a0_1, a0_2, (-1))))) = some (r1, r2, r3, r4) := h
  clear h
  replace H := Option.bind_eq_some_iff.mp H
  obtain ⟨t103, A30, H⟩ := H
  replace H : (if t103 = true then ((impl_in.f a1 0 10000).bind fun t104 => (if t104 = true then (some (a1, a0_0, a0_1, a0_2)) else (some (a0_0, a0_1, a0_2, (-1))))) else (some (a0_0, a0_1, a0_2, (-1)))) = some (r1, r2, r3, r4) := H
  have A3 := Aside0.mk A30
  clear A30
  by_cases c4 : t103 = true
  · subst c4
    have H1 : ((impl_in.f a1 0 10000).bind fun t104 => (if t104 = true then (some (a1, a0_0, a0_1, a0_2)) else (some (a0_0, a0_1, a0_2, (-1))))) = some (r1, r2, r3, r4) := by rw [if_pos rfl] at H; exact H
    clear H
    have H := H1
    clear H1
    replace H := Option.bind_eq_some_iff.mp H
    obtain ⟨t104, A50, H⟩ := H
    replace H : (if t104 = true then (some (a1, a0_0, a0_1, a0_2)) else (some (a0_0, a0_1, a0_2, (-1)))) = some (r1, r2, r3, r4) := H
    have A5 := Aside0.mk A50
    clear A50
    by_cases c6 : t104 = true
    · subst c6
      have H1 : (some (a1, a0_0, a0_1, a0_2)) = some (r1, r2, r3, r4) := by rw [if_pos rfl] at H; exact H
      clear H
      have H := H1
      clear H1
      simp only [Option.some.injEq, Prod.mk.injEq] at H
      obtain ⟨rfl, rfl, rfl, rfl⟩ := H
      go_enter Try.func60, Try.ntmps60
      try go_wp2_with (first | ((with_reducible refine gate_dst (N := 2) rfl ?_); refine box_event ?hg (N := 2) ?hd (cs := #[.int .i64 a0_0, .int .i64 a0_1, .int .i64 a0_2]) (t := 33) ?hr ?_; (case hd => rfl); (case hg => rfl); (case hr => first | (go_simp; done) | (go_simp; rfl)); intro gb101 hg w7 hbox hb; have n0_ := Aside0.mk (below_step (by repeat (first | (with_reducible first | exact HB.out | apply below_alloc | apply pw_below_drewN | apply below_drew1) | exact HB.out)) hb); have n1_ := Aside0.mk (hbox); have n2_ := Aside0.mk ((by rw [hg]; exact (below_size (by repeat (first | (with_reducible first | exact HB.out | apply below_alloc | apply pw_below_drewN | apply below_drew1) | exact HB.out))) : w.heap.size ≤ gb101)); have n3_ := Aside0.mk ((by rw [hg]; exact (below_size (by repeat (first | (with_reducible first | exact HB.out | apply below_alloc | apply pw_below_drewN | apply below_drew1) | exact HB.out))) : w.heap.size ≤ gb101)); clear HB; have HB := n0_; have BK101 := n1_; have GW101 := n2_; have GE101 := n3_; clear n0_ n1_ n2_ n3_; clear hb hbox hg) | ((with_reducible refine gate_dst (N := 4) rfl ?_); refine box_event ?hg (N := 4) ?hd (cs := #[.int .i64 0, .int .i64 0, .int .i64 0]) (t := 33) ?hr ?_; (case hd => rfl); (case hg => rfl); (case hr => first | (go_simp; done) | (go_simp; rfl)); intro gb102 hg w8 hbox hb; have n0_ := Aside0.mk (blk_below (g := gb101) (o := .cells #[.int .i64 a0_0, .int .i64 a0_1, .int .i64 a0_2] 33 (0, 0)) (by (with_reducible repeat (first | refine blk_drewN ?_ _ | refine blk_drew ?_ | refine blk_alloc ?_ _)); exact BK101.out) hb); have n1_ := Aside0.mk (below_step (by repeat (first | (with_reducible first | exact HB.out | apply below_alloc | apply pw_below_drewN | apply below_drew1 | refine below_set ?_ GE101.out) | exact HB.out)) hb); have n2_ := Aside0.mk (hbox); have n3_ := Aside0.mk ((by rw [hg]; exact (below_size (by repeat (first | (with_reducible first | exact HB.out | apply below_alloc | apply pw_below_drewN | apply below_drew1 | refine below_set ?_ GE101.out) | exact HB.out))) : w.heap.size ≤ gb102)); have n4_ := Aside0.mk ((by rw [hg]; exact (below_size (by repeat (first | (with_reducible first | exact HB.out | apply below_alloc | apply pw_below_drewN | apply below_drew1 | refine below_set ?_ GE101.out) | exact HB.out))) : w.heap.size ≤ gb102)); have n5_ := Aside0.mk ((by rw [hg]; exact Nat.ne_of_lt (blk_lt (g := gb101) (o := .cells #[.int .i64 a0_0, .int .i64 a0_1, .int .i64 a0_2] 33 (0, 0)) (by (with_reducible repeat (first | refine blk_drewN ?_ _ | refine blk_drew ?_ | refine blk_alloc ?_ _)); exact BK101.out)) : gb101 ≠ gb102)); have n6_ := Aside0.mk ((by rw [hg]; exact Nat.ne_of_gt (blk_lt (g := gb101) (o := .cells #[.int .i64 a0_0, .int .i64 a0_1, .int .i64 a0_2] 33 (0, 0)) (by (with_reducible repeat (first | refine blk_drewN ?_ _ | refine blk_drew ?_ | refine blk_alloc ?_ _)); exact BK101.out)) : gb102 ≠ gb101)); clear BK101; clear HB; have BK101 := n0_; have HB := n1_; have BK102 := n2_; have GW102 := n3_; have GE102 := n4_; have NB101_102 := n5_; have NB102_101 := n6_; clear n0_ n1_ n2_ n3_ n4_ n5_ n6_; clear hb hbox hg; have hnb9 := NB101_102.out; have hnc9 := NB102_101.out; have hcz10_0 : w8.cell? ⟨gb101, 0, none⟩ = some (.int .i64 a0_0) := (blk_cell BK101.out 0).trans rfl; have hcz10_1 : w8.cell? ⟨gb101, 1, none⟩ = some (.int .i64 a0_1) := (blk_cell BK101.out 1).trans rfl; have hcz10_2 : w8.cell? ⟨gb101, 2, none⟩ = some (.int .i64 a0_2) := (blk_cell BK101.out 2).trans rfl; have hfz10_0 := blk_frozen BK101.out 0; have hfz10_1 := blk_frozen BK101.out 1; have hfz10_2 := blk_frozen BK101.out 2) | ((with_reducible refine gate_callee (f := 57) rfl ?_); refine goesL_ (some 7) rfl rfl Try.func57 (by kernel_rfl) rfl #[.agg #[.int .i64 a0_0, .int .i64 a0_1, .int .i64 a0_2]] rfl (by (try simp only [List.map_toArray, List.map_cons, List.map_nil]); first | done | rfl | (simp only [List.length_drop, List.length_take]; rfl)) ?_; (with_reducible refine (impl_RackOk.calls a0_0 a0_1 a0_2 true _ A3.out).mono ?_); rintro e w11 ⟨rfl, hb⟩; refine ⟨_, rfl, ?_⟩; have n0_ := Aside0.mk (blk_below (g := gb101) (o := .cells #[.int .i64 a0_0, .int .i64 a0_1, .int .i64 a0_2] 33 (0, 0)) (by (with_reducible repeat (first | refine blk_drewN ?_ _ | refine blk_drew ?_ | refine blk_alloc ?_ _)); exact BK101.out) hb); have n1_ := Aside0.mk (blk_below (g := gb102) (o := .cells #[.int .i64 0, .int .i64 0, .int .i64 0] 33 (0, 0)) (by (with_reducible repeat (first | refine blk_drewN ?_ _ | refine blk_drew ?_ | refine blk_alloc ?_ _)); exact BK102.out) hb); have n2_ := Aside0.mk (below_step (by repeat (first | (with_reducible first | exact HB.out | apply below_alloc | apply pw_below_drewN | apply below_drew1 | refine below_set ?_ GE101.out | refine below_set ?_ GE102.out) | exact HB.out)) hb); clear BK101; clear BK102; clear HB; have BK101 := n0_; have BK102 := n1_; have HB := n2_; clear n0_ n1_ n2_; (try clear hb); (try clear hb2); (try clear hk); (try clear hi)) | (go_at_call 53; (with_reducible refine (impl_in.calls a1 0 10000 true _ A5.out).mono ?_); rintro e w' ⟨rfl, ⟨nd, rfl⟩⟩; (try (rw [drewN_self w11]; generalize hq_ : World.drewN w11 _ = w11; have n0_ : Aside0 (w11.heap[gb101]? = some (.cells #[.int .i64 a0_0, .int .i64 a0_1, .int .i64 a0_2] 33 (0, 0))) := ⟨by rw [← hq_]; exact (by (with_reducible repeat (first | refine blk_drewN ?_ _ | refine blk_drew ?_ | refine blk_alloc ?_ _)); exact BK101.out)⟩; have n1_ : Aside0 (w11.heap[gb102]? = some (.cells #[.int .i64 0, .int .i64 0, .int .i64 0] 33 (0, 0))) := ⟨by rw [← hq_]; exact (by (with_reducible repeat (first | refine blk_drewN ?_ _ | refine blk_drew ?_ | refine blk_alloc ?_ _)); exact BK102.out)⟩; have n2_ : Aside0 (Below w.heap.size w w11) := ⟨by rw [← hq_]; exact (by repeat (first | (with_reducible first | exact HB.out | apply below_alloc | apply pw_below_drewN | apply below_drew1 | refine below_set ?_ GE101.out | refine below_set ?_ GE102.out) | exact HB.out))⟩; clear BK101 BK102 HB hq_; have BK101 := n0_; have BK102 := n1_; have HB := n2_; clear n0_ n1_ n2_))))
      have n0_ := Aside0.mk (blk_drew BK101.out)
      have n1_ := Aside0.mk (blk_drew BK102.out)
      have n2_ := Aside0.mk (below_drew1 HB.out)
      clear BK101
      clear BK102
      clear HB
      have BK101 := n0_
      have BK102 := n1_
      have HB := n2_
      clear n0_ n1_ n2_
      refine start_ (n := 10) (S := fun w' => w'.cell? ⟨gb101, 0, none⟩ = some (.int .i64 a0_0) ∧ w'.cell? ⟨gb101, 1, none⟩ = some (.int .i64 a0_1) ∧ w'.cell? ⟨gb101, 2, none⟩ = some (.int .i64 a0_2)) (ds := []) #[false, false, false, false, false, false, false, false, false, false] (by kernel_rfl) rfl rfl ⟨(blk_cell BK101.out 0).trans rfl, (blk_cell BK101.out 1).trans rfl, (blk_cell BK101.out 2).trans rfl⟩ (fun hHeld => ?_); refine with_tabW impl_NextMorning.tab3 impl_NextMorning.bits3 (fun HT_ HW_ => ?_)
      generalize w11.drew = w12 at BK101 BK102 HB hHeld ⊢
      refine pure_ (i := 0) (N := some 15) (v := ?_) (a' := ?_) #[true, false, false, false, false, false, false, false, false, false] rfl rfl (any_of HT_.out (by kernel_rfl)) (fun _ _ _ h => h) (Or.inl ⟨by rfl, ?_⟩) ?_ ?_
      rotate_left
      · intro w'
        go_simp
        with_reducible rfl
      rotate_left
      · simp only [Act.put, List.setIfInBounds_toArray, List.set_cons_zero, List.set_cons_succ, i64_w, i32_w]
        rfl
      refine pure_ (i := 1) (N := some 16) (v := ?_) (a' := ?_) #[true, true, false, false, false, false, false, false, false, false] rfl rfl (any_of HT_.out (by kernel_rfl)) (fun _ _ _ h => h) (Or.inl ⟨by rfl, ?_⟩) ?_ ?_
      rotate_left
      · intro w'
        go_simp
        with_reducible rfl
      rotate_left
      · simp only [Act.put, List.setIfInBounds_toArray, List.set_cons_zero, List.set_cons_succ, i64_w, i32_w]
        rfl
      refine pure_ (i := 3) (N := some 18) (v := ?_) (a' := ?_) #[true, true, false, true, false, false, false, false, false, false] rfl rfl (any_of HT_.out (by kernel_rfl)) (fun _ _ _ h => h) (Or.inl ⟨by rfl, ?_⟩) ?_ ?_
      rotate_left
      · intro w'
        go_simp
        with_reducible rfl
      rotate_left
      · simp only [Act.put, List.setIfInBounds_toArray, List.set_cons_zero, List.set_cons_succ, i64_w, i32_w]
        rfl
      refine pure_ (i := 6) (N := some 21) (v := ?_) (a' := ?_) #[true, true, false, true, false, false, true, false, false, false] rfl rfl (any_of HT_.out (by kernel_rfl)) (fun _ _ _ h => h) (Or.inl ⟨by rfl, ?_⟩) ?_ ?_
      rotate_left
      · intro w'
        go_simp
        with_reducible rfl
      rotate_left
      · simp only [Act.put, List.setIfInBounds_toArray, List.set_cons_zero, List.set_cons_succ, i64_w, i32_w]
        rfl
      refine take_ (i := 2) (N := some 17) (v := ?_) (a' := ?_) #[true, true, true, true, false, false, true, false, false, false] rfl rfl (take_ofW HT_.out HW_.out (by kernel_rfl)) (fun _ _ _ h => h) (Or.inl ⟨by rfl, ?_⟩) hHeld ?_ ?_
      rotate_left
      · rintro w' ⟨s0, s1, s2⟩
        go_simp
        with_reducible rfl
      rotate_left
      · simp only [Act.put, List.setIfInBounds_toArray, List.set_cons_zero, List.set_cons_succ, i64_w, i32_w]
        rfl
      refine take_ (i := 4) (N := some 19) (v := ?_) (a' := ?_) #[true, true, true, true, true, false, true, false, false, false] rfl rfl (take_ofW HT_.out HW_.out (by kernel_rfl)) (fun _ _ _ h => h) (Or.inl ⟨by rfl, ?_⟩) hHeld ?_ ?_
      rotate_left
      · rintro w' ⟨s0, s1, s2⟩
        go_simp
        with_reducible rfl
      rotate_left
      · simp only [Act.put, List.setIfInBounds_toArray, List.set_cons_zero, List.set_cons_succ, i64_w, i32_w]
        rfl
      refine pure_ (i := 5) (N := some 20) (v := ?_) (a' := ?_) #[true, true, true, true, true, true, true, false, false, false] rfl rfl (any_of HT_.out (by kernel_rfl)) (fun _ _ _ h => h) (Or.inl ⟨by rfl, ?_⟩) ?_ ?_
      rotate_left
      · intro w'
        go_simp
        with_reducible rfl
      rotate_left
      · simp only [Act.put, List.setIfInBounds_toArray, List.set_cons_zero, List.set_cons_succ, i64_w, i32_w]
        rfl
      refine take_ (i := 7) (N := some 22) (v := ?_) (a' := ?_) #[true, true, true, true, true, true, true, true, false, false] rfl rfl (take_ofW HT_.out HW_.out (by kernel_rfl)) (fun _ _ _ h => h) (Or.inl ⟨by rfl, ?_⟩) hHeld ?_ ?_
      rotate_left
      · rintro w' ⟨s0, s1, s2⟩
        go_simp
        with_reducible rfl
      rotate_left
      · simp only [Act.put, List.setIfInBounds_toArray, List.set_cons_zero, List.set_cons_succ, i64_w, i32_w]
        rfl
      refine one_ (i := 8) (N := none) #[true, true, true, true, true, true, true, true, true, false] rfl rfl (one_of HT_.out (by kernel_rfl)) (by decide) (fun K hK => ?_)
      have hs13 : w12.cell? ⟨gb102, 0, none⟩ = some (.int .i64 0) := (blk_cell BK102.out 0).trans rfl
      have hfs13 := blk_frozen BK102.out 0
      have hns13_0 := NB101_102.out
      have hms13_0 := NB102_101.out
      have hs14 : w12.cell? ⟨gb102, 1, none⟩ = some (.int .i64 0) := (blk_cell BK102.out 1).trans rfl
      have hfs14 := blk_frozen BK102.out 1
      have hns14_0 := NB101_102.out
      have hms14_0 := NB102_101.out
      have hs15 : w12.cell? ⟨gb102, 2, none⟩ = some (.int .i64 0) := (blk_cell BK102.out 2).trans rfl
      have hfs15 := blk_frozen BK102.out 2
      have hns15_0 := NB101_102.out
      have hms15_0 := NB102_101.out
      refine skip_ (w1 := ?_) (by rfl) rfl ?_ ?_
      rotate_left
      · go_simp
        rfl
      refine hK.out _ _ ⟨((cell_far (p := ⟨gb102, _, none⟩) NB101_102.out _).trans (((cell_far (p := ⟨gb102, _, none⟩) NB101_102.out _).trans (((cell_far (p := ⟨gb102, _, none⟩) NB101_102.out _).trans (hHeld.1)))))), ((cell_far (p := ⟨gb102, _, none⟩) NB101_102.out _).trans (((cell_far (p := ⟨gb102, _, none⟩) NB101_102.out _).trans (((cell_far (p := ⟨gb102, _, none⟩) NB101_102.out _).trans (hHeld.2.1)))))), ((cell_far (p := ⟨gb102, _, none⟩) NB101_102.out _).trans (((cell_far (p := ⟨gb102, _, none⟩) NB101_102.out _).trans (((cell_far (p := ⟨gb102, _, none⟩) NB101_102.out _).trans (hHeld.2.2))))))⟩ (fun hHeld => ?_)
      clear hK K
      refine pure_ (i := 9) (N := some 5) (v := ?_) (a' := ?_) #[true, true, true, true, true, true, true, true, true, true] rfl rfl (any_of HT_.out (by kernel_rfl)) (fun _ _ _ h => h) (Or.inl ⟨by rfl, ?_⟩) ?_ ?_
      rotate_left
      · intro w'
        go_simp
        with_reducible rfl
      rotate_left
      · simp only [Act.put, List.setIfInBounds_toArray, List.set_cons_zero, List.set_cons_succ, i64_w, i32_w]
        rfl
      refine done_ (done_of HT_.out (by kernel_rfl)) ?_
      try go_wp2
      refine bodyPost_ret (results_ct rfl _ _ gb102 33 #[.int .i64 a1, .int .i64 a0_0, .int .i64 a0_1] (0, 0) _ rfl (by (with_reducible repeat (first | refine blk_drewN ?_ _ | refine blk_drew ?_ | refine blk_alloc ?_ _)); refine blk_put (cs := #[.int .i64 a1, .int .i64 a0_0, .int .i64 0]) ?_ 2 _ rfl; (with_reducible repeat (first | refine blk_drewN ?_ _ | refine blk_drew ?_ | refine blk_alloc ?_ _)); refine blk_put (cs := #[.int .i64 a1, .int .i64 0, .int .i64 0]) ?_ 1 _ rfl; (with_reducible repeat (first | refine blk_drewN ?_ _ | refine blk_drew ?_ | refine blk_alloc ?_ _)); refine blk_put (cs := #[.int .i64 0, .int .i64 0, .int .i64 0]) ?_ 0 _ rfl; (with_reducible repeat (first | refine blk_drewN ?_ _ | refine blk_drew ?_ | refine blk_alloc ?_ _)); exact BK102.out) Try.underlying33 rfl (by kernel_rfl)) rfl ?_
      exact ⟨by first | rfl | (simp [errW_none, errW_some] <;> rfl) | (simp [*, errW_none, errW_some] <;> rfl), by repeat (first | (with_reducible first | exact HB.out | apply below_alloc | apply pw_below_drewN | apply below_drew1 | refine below_set ?_ GE101.out | refine below_set ?_ GE102.out) | exact HB.out)⟩
    · replace c6 := Bool.eq_false_iff.mpr c6
      subst c6
      have H1 : (some (a0_0, a0_1, a0_2, (-1))) = some (r1, r2, r3, r4) := by rw [if_neg (show ¬ (false = true) by decide)] at H; exact H
      clear H
      have H := H1
      clear H1
      simp only [Option.some.injEq, Prod.mk.injEq] at H
      obtain ⟨rfl, rfl, rfl, rfl⟩ := H
      go_enter Try.func60, Try.ntmps60
      go_wp2_with (first | ((with_reducible refine gate_dst (N := 2) rfl ?_); refine box_event ?hg (N := 2) ?hd (cs := #[.int .i64 a0_0, .int .i64 a0_1, .int .i64 a0_2]) (t := 33) ?hr ?_; (case hd => rfl); (case hg => rfl); (case hr => first | (go_simp; done) | (go_simp; rfl)); intro gb101 hg w16 hbox hb; have n0_ := Aside0.mk (below_step (by repeat (first | (with_reducible first | exact HB.out | apply below_alloc | apply pw_below_drewN | apply below_drew1) | exact HB.out)) hb); have n1_ := Aside0.mk (hbox); have n2_ := Aside0.mk ((by rw [hg]; exact (below_size (by repeat (first | (with_reducible first | exact HB.out | apply below_alloc | apply pw_below_drewN | apply below_drew1) | exact HB.out))) : w.heap.size ≤ gb101)); have n3_ := Aside0.mk ((by rw [hg]; exact (below_size (by repeat (first | (with_reducible first | exact HB.out | apply below_alloc | apply pw_below_drewN | apply below_drew1) | exact HB.out))) : w.heap.size ≤ gb101)); clear HB; have HB := n0_; have BK101 := n1_; have GW101 := n2_; have GE101 := n3_; clear n0_ n1_ n2_ n3_; clear hb hbox hg) | ((with_reducible refine gate_dst (N := 4) rfl ?_); refine box_event ?hg (N := 4) ?hd (cs := #[.int .i64 0, .int .i64 0, .int .i64 0]) (t := 33) ?hr ?_; (case hd => rfl); (case hg => rfl); (case hr => first | (go_simp; done) | (go_simp; rfl)); intro gb102 hg w17 hbox hb; have n0_ := Aside0.mk (blk_below (g := gb101) (o := .cells #[.int .i64 a0_0, .int .i64 a0_1, .int .i64 a0_2] 33 (0, 0)) (by (with_reducible repeat (first | refine blk_drewN ?_ _ | refine blk_drew ?_ | refine blk_alloc ?_ _)); exact BK101.out) hb); have n1_ := Aside0.mk (below_step (by repeat (first | (with_reducible first | exact HB.out | apply below_alloc | apply pw_below_drewN | apply below_drew1 | refine below_set ?_ GE101.out) | exact HB.out)) hb); have n2_ := Aside0.mk (hbox); have n3_ := Aside0.mk ((by rw [hg]; exact (below_size (by repeat (first | (with_reducible first | exact HB.out | apply below_alloc | apply pw_below_drewN | apply below_drew1 | refine below_set ?_ GE101.out) | exact HB.out))) : w.heap.size ≤ gb102)); have n4_ := Aside0.mk ((by rw [hg]; exact (below_size (by repeat (first | (with_reducible first | exact HB.out | apply below_alloc | apply pw_below_drewN | apply below_drew1 | refine below_set ?_ GE101.out) | exact HB.out))) : w.heap.size ≤ gb102)); have n5_ := Aside0.mk ((by rw [hg]; exact Nat.ne_of_lt (blk_lt (g := gb101) (o := .cells #[.int .i64 a0_0, .int .i64 a0_1, .int .i64 a0_2] 33 (0, 0)) (by (with_reducible repeat (first | refine blk_drewN ?_ _ | refine blk_drew ?_ | refine blk_alloc ?_ _)); exact BK101.out)) : gb101 ≠ gb102)); have n6_ := Aside0.mk ((by rw [hg]; exact Nat.ne_of_gt (blk_lt (g := gb101) (o := .cells #[.int .i64 a0_0, .int .i64 a0_1, .int .i64 a0_2] 33 (0, 0)) (by (with_reducible repeat (first | refine blk_drewN ?_ _ | refine blk_drew ?_ | refine blk_alloc ?_ _)); exact BK101.out)) : gb102 ≠ gb101)); clear BK101; clear HB; have BK101 := n0_; have HB := n1_; have BK102 := n2_; have GW102 := n3_; have GE102 := n4_; have NB101_102 := n5_; have NB102_101 := n6_; clear n0_ n1_ n2_ n3_ n4_ n5_ n6_; clear hb hbox hg; have hnb18 := NB101_102.out; have hnc18 := NB102_101.out; have hcz19_0 : w17.cell? ⟨gb101, 0, none⟩ = some (.int .i64 a0_0) := (blk_cell BK101.out 0).trans rfl; have hcz19_1 : w17.cell? ⟨gb101, 1, none⟩ = some (.int .i64 a0_1) := (blk_cell BK101.out 1).trans rfl; have hcz19_2 : w17.cell? ⟨gb101, 2, none⟩ = some (.int .i64 a0_2) := (blk_cell BK101.out 2).trans rfl; have hfz19_0 := blk_frozen BK101.out 0; have hfz19_1 := blk_frozen BK101.out 1; have hfz19_2 := blk_frozen BK101.out 2) | ((with_reducible refine gate_callee (f := 57) rfl ?_); refine goesL_ (some 7) rfl rfl Try.func57 (by kernel_rfl) rfl #[.agg #[.int .i64 a0_0, .int .i64 a0_1, .int .i64 a0_2]] rfl (by (try simp only [List.map_toArray, List.map_cons, List.map_nil]); first | done | rfl | (simp only [List.length_drop, List.length_take]; rfl)) ?_; (with_reducible refine (impl_RackOk.calls a0_0 a0_1 a0_2 true _ A3.out).mono ?_); rintro e w20 ⟨rfl, hb⟩; refine ⟨_, rfl, ?_⟩; have n0_ := Aside0.mk (blk_below (g := gb101) (o := .cells #[.int .i64 a0_0, .int .i64 a0_1, .int .i64 a0_2] 33 (0, 0)) (by (with_reducible repeat (first | refine blk_drewN ?_ _ | refine blk_drew ?_ | refine blk_alloc ?_ _)); exact BK101.out) hb); have n1_ := Aside0.mk (blk_below (g := gb102) (o := .cells #[.int .i64 0, .int .i64 0, .int .i64 0] 33 (0, 0)) (by (with_reducible repeat (first | refine blk_drewN ?_ _ | refine blk_drew ?_ | refine blk_alloc ?_ _)); exact BK102.out) hb); have n2_ := Aside0.mk (below_step (by repeat (first | (with_reducible first | exact HB.out | apply below_alloc | apply pw_below_drewN | apply below_drew1 | refine below_set ?_ GE101.out | refine below_set ?_ GE102.out) | exact HB.out)) hb); clear BK101; clear BK102; clear HB; have BK101 := n0_; have BK102 := n1_; have HB := n2_; clear n0_ n1_ n2_; (try clear hb); (try clear hb2); (try clear hk); (try clear hi)) | (go_at_call 53; (with_reducible refine (impl_in.calls a1 0 10000 false _ A5.out).mono ?_); rintro e w' ⟨rfl, ⟨nd, rfl⟩⟩; (try (rw [drewN_self w20]; generalize hq_ : World.drewN w20 _ = w20; have n0_ : Aside0 (w20.heap[gb101]? = some (.cells #[.int .i64 a0_0, .int .i64 a0_1, .int .i64 a0_2] 33 (0, 0))) := ⟨by rw [← hq_]; exact (by (with_reducible repeat (first | refine blk_drewN ?_ _ | refine blk_drew ?_ | refine blk_alloc ?_ _)); exact BK101.out)⟩; have n1_ : Aside0 (w20.heap[gb102]? = some (.cells #[.int .i64 0, .int .i64 0, .int .i64 0] 33 (0, 0))) := ⟨by rw [← hq_]; exact (by (with_reducible repeat (first | refine blk_drewN ?_ _ | refine blk_drew ?_ | refine blk_alloc ?_ _)); exact BK102.out)⟩; have n2_ : Aside0 (Below w.heap.size w w20) := ⟨by rw [← hq_]; exact (by repeat (first | (with_reducible first | exact HB.out | apply below_alloc | apply pw_below_drewN | apply below_drew1 | refine below_set ?_ GE101.out | refine below_set ?_ GE102.out) | exact HB.out))⟩; clear BK101 BK102 HB hq_; have BK101 := n0_; have BK102 := n1_; have HB := n2_; clear n0_ n1_ n2_)); have hcz21_0 : w20.cell? ⟨gb101, 0, none⟩ = some (.int .i64 a0_0) := (blk_cell BK101.out 0).trans rfl; have hcz21_1 : w20.cell? ⟨gb101, 1, none⟩ = some (.int .i64 a0_1) := (blk_cell BK101.out 1).trans rfl; have hcz21_2 : w20.cell? ⟨gb101, 2, none⟩ = some (.int .i64 a0_2) := (blk_cell BK101.out 2).trans rfl; have hfz21_0 := blk_frozen BK101.out 0; have hfz21_1 := blk_frozen BK101.out 1; have hfz21_2 := blk_frozen BK101.out 2; have hcz22_0 : w20.cell? ⟨gb102, 0, none⟩ = some (.int .i64 0) := (blk_cell BK102.out 0).trans rfl; have hcz22_1 : w20.cell? ⟨gb102, 1, none⟩ = some (.int .i64 0) := (blk_cell BK102.out 1).trans rfl; have hcz22_2 : w20.cell? ⟨gb102, 2, none⟩ = some (.int .i64 0) := (blk_cell BK102.out 2).trans rfl; have hfz22_0 := blk_frozen BK102.out 0; have hfz22_1 := blk_frozen BK102.out 1; have hfz22_2 := blk_frozen BK102.out 2))
      refine bodyPost_ret (results_ct rfl _ _ gb102 33 #[.int .i64 a0_0, .int .i64 a0_1, .int .i64 a0_2] (0, 0) _ rfl (by (with_reducible repeat (first | refine blk_drewN ?_ _ | refine blk_drew ?_ | refine blk_alloc ?_ _)); refine blk_put (cs := #[.int .i64 a0_0, .int .i64 a0_1, .int .i64 0]) ?_ 2 _ rfl; (with_reducible repeat (first | refine blk_drewN ?_ _ | refine blk_drew ?_ | refine blk_alloc ?_ _)); refine blk_put (cs := #[.int .i64 a0_0, .int .i64 0, .int .i64 0]) ?_ 1 _ rfl; (with_reducible repeat (first | refine blk_drewN ?_ _ | refine blk_drew ?_ | refine blk_alloc ?_ _)); refine blk_put (cs := #[.int .i64 0, .int .i64 0, .int .i64 0]) ?_ 0 _ rfl; (with_reducible repeat (first | refine blk_drewN ?_ _ | refine blk_drew ?_ | refine blk_alloc ?_ _)); exact BK102.out) Try.underlying33 rfl (by kernel_rfl)) rfl ?_
      exact ⟨by first | rfl | (simp [errW_none, errW_some] <;> rfl) | (simp [*, errW_none, errW_some] <;> rfl), by repeat (first | (with_reducible first | exact HB.out | apply below_alloc | apply pw_below_drewN | apply below_drew1 | refine below_set ?_ GE101.out | refine below_set ?_ GE102.out) | exact HB.out)⟩
  · replace c4 := Bool.eq_false_iff.mpr c4
    subst c4
    have H1 : (some (a0_0, a0_1, a0_2, (-1))) = some (r1, r2, r3, r4) := by rw [if_neg (show ¬ (false = true) by decide)] at H; exact H
    clear H
    have H := H1
    clear H1
    simp only [Option.some.injEq, Prod.mk.injEq] at H
    obtain ⟨rfl, rfl, rfl, rfl⟩ := H
    go_enter Try.func60, Try.ntmps60
    go_wp2_with (first | ((with_reducible refine gate_dst (N := 2) rfl ?_); refine box_event ?hg (N := 2) ?hd (cs := #[.int .i64 a0_0, .int .i64 a0_1, .int .i64 a0_2]) (t := 33) ?hr ?_; (case hd => rfl); (case hg => rfl); (case hr => first | (go_simp; done) | (go_simp; rfl)); intro gb101 hg w23 hbox hb; have n0_ := Aside0.mk (below_step (by repeat (first | (with_reducible first | exact HB.out | apply below_alloc | apply pw_below_drewN | apply below_drew1) | exact HB.out)) hb); have n1_ := Aside0.mk (hbox); have n2_ := Aside0.mk ((by rw [hg]; exact (below_size (by repeat (first | (with_reducible first | exact HB.out | apply below_alloc | apply pw_below_drewN | apply below_drew1) | exact HB.out))) : w.heap.size ≤ gb101)); have n3_ := Aside0.mk ((by rw [hg]; exact (below_size (by repeat (first | (with_reducible first | exact HB.out | apply below_alloc | apply pw_below_drewN | apply below_drew1) | exact HB.out))) : w.heap.size ≤ gb101)); clear HB; have HB := n0_; have BK101 := n1_; have GW101 := n2_; have GE101 := n3_; clear n0_ n1_ n2_ n3_; clear hb hbox hg) | ((with_reducible refine gate_dst (N := 4) rfl ?_); refine box_event ?hg (N := 4) ?hd (cs := #[.int .i64 0, .int .i64 0, .int .i64 0]) (t := 33) ?hr ?_; (case hd => rfl); (case hg => rfl); (case hr => first | (go_simp; done) | (go_simp; rfl)); intro gb102 hg w24 hbox hb; have n0_ := Aside0.mk (blk_below (g := gb101) (o := .cells #[.int .i64 a0_0, .int .i64 a0_1, .int .i64 a0_2] 33 (0, 0)) (by (with_reducible repeat (first | refine blk_drewN ?_ _ | refine blk_drew ?_ | refine blk_alloc ?_ _)); exact BK101.out) hb); have n1_ := Aside0.mk (below_step (by repeat (first | (with_reducible first | exact HB.out | apply below_alloc | apply pw_below_drewN | apply below_drew1 | refine below_set ?_ GE101.out) | exact HB.out)) hb); have n2_ := Aside0.mk (hbox); have n3_ := Aside0.mk ((by rw [hg]; exact (below_size (by repeat (first | (with_reducible first | exact HB.out | apply below_alloc | apply pw_below_drewN | apply below_drew1 | refine below_set ?_ GE101.out) | exact HB.out))) : w.heap.size ≤ gb102)); have n4_ := Aside0.mk ((by rw [hg]; exact (below_size (by repeat (first | (with_reducible first | exact HB.out | apply below_alloc | apply pw_below_drewN | apply below_drew1 | refine below_set ?_ GE101.out) | exact HB.out))) : w.heap.size ≤ gb102)); have n5_ := Aside0.mk ((by rw [hg]; exact Nat.ne_of_lt (blk_lt (g := gb101) (o := .cells #[.int .i64 a0_0, .int .i64 a0_1, .int .i64 a0_2] 33 (0, 0)) (by (with_reducible repeat (first | refine blk_drewN ?_ _ | refine blk_drew ?_ | refine blk_alloc ?_ _)); exact BK101.out)) : gb101 ≠ gb102)); have n6_ := Aside0.mk ((by rw [hg]; exact Nat.ne_of_gt (blk_lt (g := gb101) (o := .cells #[.int .i64 a0_0, .int .i64 a0_1, .int .i64 a0_2] 33 (0, 0)) (by (with_reducible repeat (first | refine blk_drewN ?_ _ | refine blk_drew ?_ | refine blk_alloc ?_ _)); exact BK101.out)) : gb102 ≠ gb101)); clear BK101; clear HB; have BK101 := n0_; have HB := n1_; have BK102 := n2_; have GW102 := n3_; have GE102 := n4_; have NB101_102 := n5_; have NB102_101 := n6_; clear n0_ n1_ n2_ n3_ n4_ n5_ n6_; clear hb hbox hg; have hnb25 := NB101_102.out; have hnc25 := NB102_101.out; have hcz26_0 : w24.cell? ⟨gb101, 0, none⟩ = some (.int .i64 a0_0) := (blk_cell BK101.out 0).trans rfl; have hcz26_1 : w24.cell? ⟨gb101, 1, none⟩ = some (.int .i64 a0_1) := (blk_cell BK101.out 1).trans rfl; have hcz26_2 : w24.cell? ⟨gb101, 2, none⟩ = some (.int .i64 a0_2) := (blk_cell BK101.out 2).trans rfl; have hfz26_0 := blk_frozen BK101.out 0; have hfz26_1 := blk_frozen BK101.out 1; have hfz26_2 := blk_frozen BK101.out 2) | ((with_reducible refine gate_callee (f := 57) rfl ?_); refine goesL_ (some 7) rfl rfl Try.func57 (by kernel_rfl) rfl #[.agg #[.int .i64 a0_0, .int .i64 a0_1, .int .i64 a0_2]] rfl (by (try simp only [List.map_toArray, List.map_cons, List.map_nil]); first | done | rfl | (simp only [List.length_drop, List.length_take]; rfl)) ?_; (with_reducible refine (impl_RackOk.calls a0_0 a0_1 a0_2 false _ A3.out).mono ?_); rintro e w27 ⟨rfl, hb⟩; refine ⟨_, rfl, ?_⟩; have n0_ := Aside0.mk (blk_below (g := gb101) (o := .cells #[.int .i64 a0_0, .int .i64 a0_1, .int .i64 a0_2] 33 (0, 0)) (by (with_reducible repeat (first | refine blk_drewN ?_ _ | refine blk_drew ?_ | refine blk_alloc ?_ _)); exact BK101.out) hb); have n1_ := Aside0.mk (blk_below (g := gb102) (o := .cells #[.int .i64 0, .int .i64 0, .int .i64 0] 33 (0, 0)) (by (with_reducible repeat (first | refine blk_drewN ?_ _ | refine blk_drew ?_ | refine blk_alloc ?_ _)); exact BK102.out) hb); have n2_ := Aside0.mk (below_step (by repeat (first | (with_reducible first | exact HB.out | apply below_alloc | apply pw_below_drewN | apply below_drew1 | refine below_set ?_ GE101.out | refine below_set ?_ GE102.out) | exact HB.out)) hb); clear BK101; clear BK102; clear HB; have BK101 := n0_; have BK102 := n1_; have HB := n2_; clear n0_ n1_ n2_; (try clear hb); (try clear hb2); (try clear hk); (try clear hi); have hcz28_0 : w27.cell? ⟨gb101, 0, none⟩ = some (.int .i64 a0_0) := (blk_cell BK101.out 0).trans rfl; have hcz28_1 : w27.cell? ⟨gb101, 1, none⟩ = some (.int .i64 a0_1) := (blk_cell BK101.out 1).trans rfl; have hcz28_2 : w27.cell? ⟨gb101, 2, none⟩ = some (.int .i64 a0_2) := (blk_cell BK101.out 2).trans rfl; have hfz28_0 := blk_frozen BK101.out 0; have hfz28_1 := blk_frozen BK101.out 1; have hfz28_2 := blk_frozen BK101.out 2; have hcz29_0 : w27.cell? ⟨gb102, 0, none⟩ = some (.int .i64 0) := (blk_cell BK102.out 0).trans rfl; have hcz29_1 : w27.cell? ⟨gb102, 1, none⟩ = some (.int .i64 0) := (blk_cell BK102.out 1).trans rfl; have hcz29_2 : w27.cell? ⟨gb102, 2, none⟩ = some (.int .i64 0) := (blk_cell BK102.out 2).trans rfl; have hfz29_0 := blk_frozen BK102.out 0; have hfz29_1 := blk_frozen BK102.out 1; have hfz29_2 := blk_frozen BK102.out 2))
    refine bodyPost_ret (results_ct rfl _ _ gb102 33 #[.int .i64 a0_0, .int .i64 a0_1, .int .i64 a0_2] (0, 0) _ rfl (by (with_reducible repeat (first | refine blk_drewN ?_ _ | refine blk_drew ?_ | refine blk_alloc ?_ _)); refine blk_put (cs := #[.int .i64 a0_0, .int .i64 a0_1, .int .i64 0]) ?_ 2 _ rfl; (with_reducible repeat (first | refine blk_drewN ?_ _ | refine blk_drew ?_ | refine blk_alloc ?_ _)); refine blk_put (cs := #[.int .i64 a0_0, .int .i64 0, .int .i64 0]) ?_ 1 _ rfl; (with_reducible repeat (first | refine blk_drewN ?_ _ | refine blk_drew ?_ | refine blk_alloc ?_ _)); refine blk_put (cs := #[.int .i64 0, .int .i64 0, .int .i64 0]) ?_ 0 _ rfl; (with_reducible repeat (first | refine blk_drewN ?_ _ | refine blk_drew ?_ | refine blk_alloc ?_ _)); exact BK102.out) Try.underlying33 rfl (by kernel_rfl)) rfl ?_
    exact ⟨by first | rfl | (simp [errW_none, errW_some] <;> rfl) | (simp [*, errW_none, errW_some] <;> rfl), by repeat (first | (with_reducible first | exact HB.out | apply below_alloc | apply pw_below_drewN | apply below_drew1 | refine below_set ?_ GE101.out | refine below_set ?_ GE102.out) | exact HB.out)⟩
end Go.Proofs.Ytdlmincaplbpgaa.Q
namespace Go.Proofs.Ytdlmincaplbpgaa.Q
open Go.RowKit Go.Proofs.YtdlmincaplbpgaaW.PrintWords Go.Proofs.YtdlmincaplbpgaaW.PrintLast Go.Proofs.YtdlmincaplbpgaaW.PrintMore
attribute [local go_sem] max2_int min2_int max_two min_two max_three min_three max_four min_four
set_option linter.unusedVariables false
set_option linter.unusedSimpArgs false
def impl_taken.f (a0 : Int) (a1 : Int) (a2 : Int) : Option (Int × Int × Int) := some (wrap64 (a0 - (mn a0 a2)), wrap64 (a1 - (mn a1 (wrap64 (a2 - (mn a0 a2))))), wrap64 ((mn a0 a2) + (mn a1 (wrap64 (a2 - (mn a0 a2))))))
set_option maxHeartbeats 8000000 in
set_option maxRecDepth 100000 in
theorem impl_taken.calls (a0 : Int) (a1 : Int) (a2 : Int) (r1 : Int) (r2 : Int) (r3 : Int) (w : World) (h : impl_taken.f a0 a1 a2 = some (r1, r2, r3)) :
    Calls Try.prog 95 #[.int .i64 a0, .int .i64 a1, .int .i64 a2] w fun e w' => e = .returned (.tuple #[.int .i64 r1, .int .i64 r2, .int .i64 r3]) ∧ Below w.heap.size w w' := by
  have HB := Aside0.mk (Below.refl w.heap.size w)
  have H : (some (wrap64 (a0 - (mn a0 a2)), wrap64 (a1 - (mn a1 (wrap64 (a2 - (mn a0 a2))))), wrap64 ((mn a0 a2) + (mn a1 (wrap64 (a2 - (mn a0 a2))))))) = some (r1, r2, r3) := h
  clear h
  obtain ⟨ji4, hji4⟩ : ∃ j_ : Int, (mn a0 a2) = j_ := ⟨_, rfl⟩
  replace H : (some (wrap64 (a0 - (ji4)), wrap64 (a1 - (mn a1 (wrap64 (a2 - (ji4))))), wrap64 ((ji4) + (mn a1 (wrap64 (a2 - (ji4))))))) = some (r1, r2, r3) := by first | (rw [hji4] at H; exact H) | (simp only [hji4] at H ⊢; exact H)
  have hji4_ : (if a2 < a0 then a2 else a0) = ji4 := hji4
  obtain ⟨ji5, hji5⟩ : ∃ j_ : Int, (mn a1 (wrap64 (a2 - (ji4)))) = j_ := ⟨_, rfl⟩
  replace H : (some (wrap64 (a0 - (ji4)), wrap64 (a1 - (ji5)), wrap64 ((ji4) + (ji5)))) = some (r1, r2, r3) := by first | (rw [hji5] at H; exact H) | (simp only [hji5] at H ⊢; exact H)
  have hji5_ : (if (wrap64 (a2 - (ji4))) < a1 then (wrap64 (a2 - (ji4))) else a1) = ji5 := hji5
  simp only [Option.some.injEq, Prod.mk.injEq] at H
  obtain ⟨rfl, rfl, rfl⟩ := H
  go_enter Try.func95, Try.ntmps95
  go_wp2
  go_ret3
  exact ⟨by first | rfl | (simp [errW_none, errW_some] <;> rfl) | (simp only [← hji4, ← hji5]; first | rfl | (simp [errW_none, errW_some] <;> rfl)) | (simp [*, errW_none, errW_some] <;> rfl), by repeat (first | (with_reducible first | exact HB.out | apply below_alloc | apply pw_below_drewN | apply below_drew1) | exact HB.out)⟩
end Go.Proofs.Ytdlmincaplbpgaa.Q
namespace Go.Proofs.Ytdlmincaplbpgaa.Q
open Go.RowKit Go.Proofs.YtdlmincaplbpgaaW.PrintWords Go.Proofs.YtdlmincaplbpgaaW.PrintLast Go.Proofs.YtdlmincaplbpgaaW.PrintMore
attribute [local go_sem] max2_int min2_int max_two min_two max_three min_three max_four min_four
set_option linter.unusedVariables false
set_option linter.unusedSimpArgs false
def impl_SellCheap.f (a0_0 : Int) (a0_1 : Int) (a0_2 : Int) (a1 : Int) : Option (Int × Int × Int × Int) := (impl_RackOk.f a0_0 a0_1 a0_2).bind fun t103 => (if t103 = true then ((impl_in.f a1 0 10000).bind fun t104 => (if t104 = true then ((impl_taken.f a0_2 a0_1 a1).bind fun bt105 => (some (a0_0, bt105.2.1, bt105.1, bt105.2.2))) else (some (a0_0, a0_1, a0_2, (-1))))) else (some (a0_0, a0_1, a0_2, (-1))))
set_option maxHeartbeats 8000000 in
set_option maxRecDepth 100000 in
theorem impl_SellCheap.calls (a0_0 : Int) (a0_1 : Int) (a0_2 : Int) (a1 : Int) (r1 : Int) (r2 : Int) (r3 : Int) (r4 : Int) (w : World) (h : impl_SellCheap.f a0_0 a0_1 a0_2 a1 = some (r1, r2, r3, r4)) :
    Calls Try.prog 59 #[.agg #[.int .i64 a0_0, .int .i64 a0_1, .int .i64 a0_2], .int .i64 a1] w fun e w' => e = .returned (.tuple #[.agg #[.int .i64 r1, .int .i64 r2, .int .i64 r3], .int .i64 r4]) ∧ Below w.heap.size w w' := by
  have hu33 := Try.underlying33
  have HB := Aside0.mk (Below.refl w.heap.size w)
  have H : ((impl_RackOk.f a0_0 a0_1 a0_2).bind fun t103 => (if t103 = true then ((impl_in.f a1 0 10000).bind fun t104 => (if t104 = true then ((impl_taken.f a0_2 a0_1 a1).bind fun bt105 => (some (a0_0, bt105.2.1, bt105.1, bt105.2.2))) else (some (a0_0, a0_1, a0_2, (-1))))) else (some (a0_0, a0_1, a0_2, (-1))))) = some (r1, r2, r3, r4) := h
  clear h
  replace H := Option.bind_eq_some_iff.mp H
  obtain ⟨t103, A30, H⟩ := H
  replace H : (if t103 = true then ((impl_in.f a1 0 10000).bind fun t104 => (if t104 = true then ((impl_taken.f a0_2 a0_1 a1).bind fun bt105 => (some (a0_0, bt105.2.1, bt105.1, bt105.2.2))) else (some (a0_0, a0_1, a0_2, (-1))))) else (some (a0_0, a0_1, a0_2, (-1)))) = some (r1, r2, r3, r4) := H
  have A3 := Aside0.mk A30
  clear A30
  by_cases c4 : t103 = true
  · subst c4
    have H1 : ((impl_in.f a1 0 10000).bind fun t104 => (if t104 = true then ((impl_taken.f a0_2 a0_1 a1).bind fun bt105 => (some (a0_0, bt105.2.1, bt105.1, bt105.2.2))) else (some (a0_0, a0_1, a0_2, (-1))))) = some (r1, r2, r3, r4) := by rw [if_pos rfl] at H; exact H
    clear H
    have H := H1
    clear H1
    replace H := Option.bind_eq_some_iff.mp H
    obtain ⟨t104, A50, H⟩ := H
    replace H : (if t104 = true then ((impl_taken.f a0_2 a0_1 a1).bind fun bt105 => (some (a0_0, bt105.2.1, bt105.1, bt105.2.2))) else (some (a0_0, a0_1, a0_2, (-1)))) = some (r1, r2, r3, r4) := H
    have A5 := Aside0.mk A50
    clear A50
    by_cases c6 : t104 = true
    · subst c6
      have H1 : ((impl_taken.f a0_2 a0_1 a1).bind fun bt105 => (some (a0_0, bt105.2.1, bt105.1, bt105.2.2))) = some (r1, r2, r3, r4) := by rw [if_pos rfl] at H; exact H
      clear H
      have H := H1
      clear H1
      replace H := Option.bind_eq_some_iff.mp H
      obtain ⟨⟨t105, t106, t107⟩, A70, H⟩ := H
      replace H : (some (a0_0, t106, t105, t107)) = some (r1, r2, r3, r4) := H
      have A7 := Aside0.mk A70
      clear A70
      simp only [Option.some.injEq, Prod.mk.injEq] at H
      obtain ⟨rfl, rfl, rfl, rfl⟩ := H
      go_enter Try.func59, Try.ntmps59
      go_wp2_with (first | ((with_reducible refine gate_dst (N := 2) rfl ?_); refine box_event ?hg (N := 2) ?hd (cs := #[.int .i64 a0_0, .int .i64 a0_1, .int .i64 a0_2]) (t := 33) ?hr ?_; (case hd => rfl); (case hg => rfl); (case hr => first | (go_simp; done) | (go_simp; rfl)); intro gb101 hg w8 hbox hb; have n0_ := Aside0.mk (below_step (by repeat (first | (with_reducible first | exact HB.out | apply below_alloc | apply pw_below_drewN | apply below_drew1) | exact HB.out)) hb); have n1_ := Aside0.mk (hbox); have n2_ := Aside0.mk ((by rw [hg]; exact (below_size (by repeat (first | (with_reducible first | exact HB.out | apply below_alloc | apply pw_below_drewN | apply below_drew1) | exact HB.out))) : w.heap.size ≤ gb101)); have n3_ := Aside0.mk ((by rw [hg]; exact (below_size (by repeat (first | (with_reducible first | exact HB.out | apply below_alloc | apply pw_below_drewN | apply below_drew1) | exact HB.out))) : w.heap.size ≤ gb101)); clear HB; have HB := n0_; have BK101 := n1_; have GW101 := n2_; have GE101 := n3_; clear n0_ n1_ n2_ n3_; clear hb hbox hg) | ((with_reducible refine gate_dst (N := 4) rfl ?_); refine box_event ?hg (N := 4) ?hd (cs := #[.int .i64 0, .int .i64 0, .int .i64 0]) (t := 33) ?hr ?_; (case hd => rfl); (case hg => rfl); (case hr => first | (go_simp; done) | (go_simp; rfl)); intro gb102 hg w9 hbox hb; have n0_ := Aside0.mk (blk_below (g := gb101) (o := .cells #[.int .i64 a0_0, .int .i64 a0_1, .int .i64 a0_2] 33 (0, 0)) (by (with_reducible repeat (first | refine blk_drewN ?_ _ | refine blk_drew ?_ | refine blk_alloc ?_ _)); exact BK101.out) hb); have n1_ := Aside0.mk (below_step (by repeat (first | (with_reducible first | exact HB.out | apply below_alloc | apply pw_below_drewN | apply below_drew1 | refine below_set ?_ GE101.out) | exact HB.out)) hb); have n2_ := Aside0.mk (hbox); have n3_ := Aside0.mk ((by rw [hg]; exact (below_size (by repeat (first | (with_reducible first | exact HB.out | apply below_alloc | apply pw_below_drewN | apply below_drew1 | refine below_set ?_ GE101.out) | exact HB.out))) : w.heap.size ≤ gb102)); have n4_ := Aside0.mk ((by rw [hg]; exact (below_size (by repeat (first | (with_reducible first | exact HB.out | apply below_alloc | apply pw_below_drewN | apply below_drew1 | refine below_set ?_ GE101.out) | exact HB.out))) : w.heap.size ≤ gb102)); have n5_ := Aside0.mk ((by rw [hg]; exact Nat.ne_of_lt (blk_lt (g := gb101) (o := .cells #[.int .i64 a0_0, .int .i64 a0_1, .int .i64 a0_2] 33 (0, 0)) (by (with_reducible repeat (first | refine blk_drewN ?_ _ | refine blk_drew ?_ | refine blk_alloc ?_ _)); exact BK101.out)) : gb101 ≠ gb102)); have n6_ := Aside0.mk ((by rw [hg]; exact Nat.ne_of_gt (blk_lt (g := gb101) (o := .cells #[.int .i64 a0_0, .int .i64 a0_1, .int .i64 a0_2] 33 (0, 0)) (by (with_reducible repeat (first | refine blk_drewN ?_ _ | refine blk_drew ?_ | refine blk_alloc ?_ _)); exact BK101.out)) : gb102 ≠ gb101)); clear BK101; clear HB; have BK101 := n0_; have HB := n1_; have BK102 := n2_; have GW102 := n3_; have GE102 := n4_; have NB101_102 := n5_; have NB102_101 := n6_; clear n0_ n1_ n2_ n3_ n4_ n5_ n6_; clear hb hbox hg; have hnb10 := NB101_102.out; have hnc10 := NB102_101.out; have hcz11_0 : w9.cell? ⟨gb101, 0, none⟩ = some (.int .i64 a0_0) := (blk_cell BK101.out 0).trans rfl; have hcz11_1 : w9.cell? ⟨gb101, 1, none⟩ = some (.int .i64 a0_1) := (blk_cell BK101.out 1).trans rfl; have hcz11_2 : w9.cell? ⟨gb101, 2, none⟩ = some (.int .i64 a0_2) := (blk_cell BK101.out 2).trans rfl; have hfz11_0 := blk_frozen BK101.out 0; have hfz11_1 := blk_frozen BK101.out 1; have hfz11_2 := blk_frozen BK101.out 2) | ((with_reducible refine gate_callee (f := 57) rfl ?_); refine goesL_ (some 8) rfl rfl Try.func57 (by kernel_rfl) rfl #[.agg #[.int .i64 a0_0, .int .i64 a0_1, .int .i64 a0_2]] rfl (by (try simp only [List.map_toArray, List.map_cons, List.map_nil]); first | done | rfl | (simp only [List.length_drop, List.length_take]; rfl)) ?_; (with_reducible refine (impl_RackOk.calls a0_0 a0_1 a0_2 true _ A3.out).mono ?_); rintro e w12 ⟨rfl, hb⟩; refine ⟨_, rfl, ?_⟩; have n0_ := Aside0.mk (blk_below (g := gb101) (o := .cells #[.int .i64 a0_0, .int .i64 a0_1, .int .i64 a0_2] 33 (0, 0)) (by (with_reducible repeat (first | refine blk_drewN ?_ _ | refine blk_drew ?_ | refine blk_alloc ?_ _)); exact BK101.out) hb); have n1_ := Aside0.mk (blk_below (g := gb102) (o := .cells #[.int .i64 0, .int .i64 0, .int .i64 0] 33 (0, 0)) (by (with_reducible repeat (first | refine blk_drewN ?_ _ | refine blk_drew ?_ | refine blk_alloc ?_ _)); exact BK102.out) hb); have n2_ := Aside0.mk (below_step (by repeat (first | (with_reducible first | exact HB.out | apply below_alloc | apply pw_below_drewN | apply below_drew1 | refine below_set ?_ GE101.out | refine below_set ?_ GE102.out) | exact HB.out)) hb); clear BK101; clear BK102; clear HB; have BK101 := n0_; have BK102 := n1_; have HB := n2_; clear n0_ n1_ n2_; (try clear hb); (try clear hb2); (try clear hk); (try clear hi)) | (go_at_call 53; (with_reducible refine (impl_in.calls a1 0 10000 true _ A5.out).mono ?_); rintro e w' ⟨rfl, ⟨nd, rfl⟩⟩; (try (rw [drewN_self w12]; generalize hq_ : World.drewN w12 _ = w12; have n0_ : Aside0 (w12.heap[gb101]? = some (.cells #[.int .i64 a0_0, .int .i64 a0_1, .int .i64 a0_2] 33 (0, 0))) := ⟨by rw [← hq_]; exact (by (with_reducible repeat (first | refine blk_drewN ?_ _ | refine blk_drew ?_ | refine blk_alloc ?_ _)); exact BK101.out)⟩; have n1_ : Aside0 (w12.heap[gb102]? = some (.cells #[.int .i64 0, .int .i64 0, .int .i64 0] 33 (0, 0))) := ⟨by rw [← hq_]; exact (by (with_reducible repeat (first | refine blk_drewN ?_ _ | refine blk_drew ?_ | refine blk_alloc ?_ _)); exact BK102.out)⟩; have n2_ : Aside0 (Below w.heap.size w w12) := ⟨by rw [← hq_]; exact (by repeat (first | (with_reducible first | exact HB.out | apply below_alloc | apply pw_below_drewN | apply below_drew1 | refine below_set ?_ GE101.out | refine below_set ?_ GE102.out) | exact HB.out))⟩; clear BK101 BK102 HB hq_; have BK101 := n0_; have BK102 := n1_; have HB := n2_; clear n0_ n1_ n2_)); have hcz13_0 : w12.cell? ⟨gb101, 0, none⟩ = some (.int .i64 a0_0) := (blk_cell BK101.out 0).trans rfl; have hcz13_1 : w12.cell? ⟨gb101, 1, none⟩ = some (.int .i64 a0_1) := (blk_cell BK101.out 1).trans rfl; have hcz13_2 : w12.cell? ⟨gb101, 2, none⟩ = some (.int .i64 a0_2) := (blk_cell BK101.out 2).trans rfl; have hfz13_0 := blk_frozen BK101.out 0; have hfz13_1 := blk_frozen BK101.out 1; have hfz13_2 := blk_frozen BK101.out 2) | ((with_reducible refine gate_callee (f := 95) rfl ?_); refine goesL_ (some 22) rfl rfl Try.func95 (by kernel_rfl) rfl #[.int .i64 a0_2, .int .i64 a0_1, .int .i64 a1] rfl (by (try simp only [List.map_toArray, List.map_cons, List.map_nil]); first | done | rfl | (simp only [List.length_drop, List.length_take]; rfl)) ?_; (with_reducible refine (impl_taken.calls a0_2 a0_1 a1 t105 t106 t107 _ A7.out).mono ?_); rintro e w14 ⟨rfl, hb⟩; refine ⟨_, rfl, ?_⟩; have n0_ := Aside0.mk (blk_below (g := gb101) (o := .cells #[.int .i64 a0_0, .int .i64 a0_1, .int .i64 a0_2] 33 (0, 0)) (by (with_reducible repeat (first | refine blk_drewN ?_ _ | refine blk_drew ?_ | refine blk_alloc ?_ _)); exact BK101.out) hb); have n1_ := Aside0.mk (blk_below (g := gb102) (o := .cells #[.int .i64 0, .int .i64 0, .int .i64 0] 33 (0, 0)) (by (with_reducible repeat (first | refine blk_drewN ?_ _ | refine blk_drew ?_ | refine blk_alloc ?_ _)); exact BK102.out) hb); have n2_ := Aside0.mk (below_step (by repeat (first | (with_reducible first | exact HB.out | apply below_alloc | apply pw_below_drewN | apply below_drew1 | refine below_set ?_ GE101.out | refine below_set ?_ GE102.out) | exact HB.out)) hb); clear BK101; clear BK102; clear HB; have BK101 := n0_; have BK102 := n1_; have HB := n2_; clear n0_ n1_ n2_; (try clear hb); (try clear hb2); (try clear hk); (try clear hi); have hcz15_0 : w14.cell? ⟨gb101, 0, none⟩ = some (.int .i64 a0_0) := (blk_cell BK101.out 0).trans rfl; have hcz15_1 : w14.cell? ⟨gb101, 1, none⟩ = some (.int .i64 a0_1) := (blk_cell BK101.out 1).trans rfl; have hcz15_2 : w14.cell? ⟨gb101, 2, none⟩ = some (.int .i64 a0_2) := (blk_cell BK101.out 2).trans rfl; have hfz15_0 := blk_frozen BK101.out 0; have hfz15_1 := blk_frozen BK101.out 1; have hfz15_2 := blk_frozen BK101.out 2; have hcz16_0 : w14.cell? ⟨gb102, 0, none⟩ = some (.int .i64 0) := (blk_cell BK102.out 0).trans rfl; have hcz16_1 : w14.cell? ⟨gb102, 1, none⟩ = some (.int .i64 0) := (blk_cell BK102.out 1).trans rfl; have hcz16_2 : w14.cell? ⟨gb102, 2, none⟩ = some (.int .i64 0) := (blk_cell BK102.out 2).trans rfl; have hfz16_0 := blk_frozen BK102.out 0; have hfz16_1 := blk_frozen BK102.out 1; have hfz16_2 := blk_frozen BK102.out 2))
      refine bodyPost_ret (results_ct rfl _ _ gb102 33 #[.int .i64 a0_0, .int .i64 t106, .int .i64 t105] (0, 0) _ rfl (by (with_reducible repeat (first | refine blk_drewN ?_ _ | refine blk_drew ?_ | refine blk_alloc ?_ _)); refine blk_put (cs := #[.int .i64 a0_0, .int .i64 t106, .int .i64 0]) ?_ 2 _ rfl; (with_reducible repeat (first | refine blk_drewN ?_ _ | refine blk_drew ?_ | refine blk_alloc ?_ _)); refine blk_put (cs := #[.int .i64 a0_0, .int .i64 0, .int .i64 0]) ?_ 1 _ rfl; (with_reducible repeat (first | refine blk_drewN ?_ _ | refine blk_drew ?_ | refine blk_alloc ?_ _)); refine blk_put (cs := #[.int .i64 0, .int .i64 0, .int .i64 0]) ?_ 0 _ rfl; (with_reducible repeat (first | refine blk_drewN ?_ _ | refine blk_drew ?_ | refine blk_alloc ?_ _)); refine blk_far ?_ NB102_101.out _; (with_reducible repeat (first | refine blk_drewN ?_ _ | refine blk_drew ?_ | refine blk_alloc ?_ _)); refine blk_far ?_ NB102_101.out _; (with_reducible repeat (first | refine blk_drewN ?_ _ | refine blk_drew ?_ | refine blk_alloc ?_ _)); exact BK102.out) Try.underlying33 rfl (by kernel_rfl)) rfl ?_
      exact ⟨by first | rfl | (simp [errW_none, errW_some] <;> rfl) | (simp [*, errW_none, errW_some] <;> rfl), by repeat (first | (with_reducible first | exact HB.out | apply below_alloc | apply pw_below_drewN | apply below_drew1 | refine below_set ?_ GE101.out | refine below_set ?_ GE102.out) | exact HB.out)⟩
    · replace c6 := Bool.eq_false_iff.mpr c6
      subst c6
      have H1 : (some (a0_0, a0_1, a0_2, (-1))) = some (r1, r2, r3, r4) := by rw [if_neg (show ¬ (false = true) by decide)] at H; exact H
      clear H
      have H := H1
      clear H1
      simp only [Option.some.injEq, Prod.mk.injEq] at H
      obtain ⟨rfl, rfl, rfl, rfl⟩ := H
      go_enter Try.func59, Try.ntmps59
      go_wp2_with (first | ((with_reducible refine gate_dst (N := 2) rfl ?_); refine box_event ?hg (N := 2) ?hd (cs := #[.int .i64 a0_0, .int .i64 a0_1, .int .i64 a0_2]) (t := 33) ?hr ?_; (case hd => rfl); (case hg => rfl); (case hr => first | (go_simp; done) | (go_simp; rfl)); intro gb101 hg w17 hbox hb; have n0_ := Aside0.mk (below_step (by repeat (first | (with_reducible first | exact HB.out | apply below_alloc | apply pw_below_drewN | apply below_drew1) | exact HB.out)) hb); have n1_ := Aside0.mk (hbox); have n2_ := Aside0.mk ((by rw [hg]; exact (below_size (by repeat (first | (with_reducible first | exact HB.out | apply below_alloc | apply pw_below_drewN | apply below_drew1) | exact HB.out))) : w.heap.size ≤ gb101)); have n3_ := Aside0.mk ((by rw [hg]; exact (below_size (by repeat (first | (with_reducible first | exact HB.out | apply below_alloc | apply pw_below_drewN | apply below_drew1) | exact HB.out))) : w.heap.size ≤ gb101)); clear HB; have HB := n0_; have BK101 := n1_; have GW101 := n2_; have GE101 := n3_; clear n0_ n1_ n2_ n3_; clear hb hbox hg) | ((with_reducible refine gate_dst (N := 4) rfl ?_); refine box_event ?hg (N := 4) ?hd (cs := #[.int .i64 0, .int .i64 0, .int .i64 0]) (t := 33) ?hr ?_; (case hd => rfl); (case hg => rfl); (case hr => first | (go_simp; done) | (go_simp; rfl)); intro gb102 hg w18 hbox hb; have n0_ := Aside0.mk (blk_below (g := gb101) (o := .cells #[.int .i64 a0_0, .int .i64 a0_1, .int .i64 a0_2] 33 (0, 0)) (by (with_reducible repeat (first | refine blk_drewN ?_ _ | refine blk_drew ?_ | refine blk_alloc ?_ _)); exact BK101.out) hb); have n1_ := Aside0.mk (below_step (by repeat (first | (with_reducible first | exact HB.out | apply below_alloc | apply pw_below_drewN | apply below_drew1 | refine below_set ?_ GE101.out) | exact HB.out)) hb); have n2_ := Aside0.mk (hbox); have n3_ := Aside0.mk ((by rw [hg]; exact (below_size (by repeat (first | (with_reducible first | exact HB.out | apply below_alloc | apply pw_below_drewN | apply below_drew1 | refine below_set ?_ GE101.out) | exact HB.out))) : w.heap.size ≤ gb102)); have n4_ := Aside0.mk ((by rw [hg]; exact (below_size (by repeat (first | (with_reducible first | exact HB.out | apply below_alloc | apply pw_below_drewN | apply below_drew1 | refine below_set ?_ GE101.out) | exact HB.out))) : w.heap.size ≤ gb102)); have n5_ := Aside0.mk ((by rw [hg]; exact Nat.ne_of_lt (blk_lt (g := gb101) (o := .cells #[.int .i64 a0_0, .int .i64 a0_1, .int .i64 a0_2] 33 (0, 0)) (by (with_reducible repeat (first | refine blk_drewN ?_ _ | refine blk_drew ?_ | refine blk_alloc ?_ _)); exact BK101.out)) : gb101 ≠ gb102)); have n6_ := Aside0.mk ((by rw [hg]; exact Nat.ne_of_gt (blk_lt (g := gb101) (o := .cells #[.int .i64 a0_0, .int .i64 a0_1, .int .i64 a0_2] 33 (0, 0)) (by (with_reducible repeat (first | refine blk_drewN ?_ _ | refine blk_drew ?_ | refine blk_alloc ?_ _)); exact BK101.out)) : gb102 ≠ gb101)); clear BK101; clear HB; have BK101 := n0_; have HB := n1_; have BK102 := n2_; have GW102 := n3_; have GE102 := n4_; have NB101_102 := n5_; have NB102_101 := n6_; clear n0_ n1_ n2_ n3_ n4_ n5_ n6_; clear hb hbox hg; have hnb19 := NB101_102.out; have hnc19 := NB102_101.out; have hcz20_0 : w18.cell? ⟨gb101, 0, none⟩ = some (.int .i64 a0_0) := (blk_cell BK101.out 0).trans rfl; have hcz20_1 : w18.cell? ⟨gb101, 1, none⟩ = some (.int .i64 a0_1) := (blk_cell BK101.out 1).trans rfl; have hcz20_2 : w18.cell? ⟨gb101, 2, none⟩ = some (.int .i64 a0_2) := (blk_cell BK101.out 2).trans rfl; have hfz20_0 := blk_frozen BK101.out 0; have hfz20_1 := blk_frozen BK101.out 1; have hfz20_2 := blk_frozen BK101.out 2) | ((with_reducible refine gate_callee (f := 57) rfl ?_); refine goesL_ (some 8) rfl rfl Try.func57 (by kernel_rfl) rfl #[.agg #[.int .i64 a0_0, .int .i64 a0_1, .int .i64 a0_2]] rfl (by (try simp only [List.map_toArray, List.map_cons, List.map_nil]); first | done | rfl | (simp only [List.length_drop, List.length_take]; rfl)) ?_; (with_reducible refine (impl_RackOk.calls a0_0 a0_1 a0_2 true _ A3.out).mono ?_); rintro e w21 ⟨rfl, hb⟩; refine ⟨_, rfl, ?_⟩; have n0_ := Aside0.mk (blk_below (g := gb101) (o := .cells #[.int .i64 a0_0, .int .i64 a0_1, .int .i64 a0_2] 33 (0, 0)) (by (with_reducible repeat (first | refine blk_drewN ?_ _ | refine blk_drew ?_ | refine blk_alloc ?_ _)); exact BK101.out) hb); have n1_ := Aside0.mk (blk_below (g := gb102) (o := .cells #[.int .i64 0, .int .i64 0, .int .i64 0] 33 (0, 0)) (by (with_reducible repeat (first | refine blk_drewN ?_ _ | refine blk_drew ?_ | refine blk_alloc ?_ _)); exact BK102.out) hb); have n2_ := Aside0.mk (below_step (by repeat (first | (with_reducible first | exact HB.out | apply below_alloc | apply pw_below_drewN | apply below_drew1 | refine below_set ?_ GE101.out | refine below_set ?_ GE102.out) | exact HB.out)) hb); clear BK101; clear BK102; clear HB; have BK101 := n0_; have BK102 := n1_; have HB := n2_; clear n0_ n1_ n2_; (try clear hb); (try clear hb2); (try clear hk); (try clear hi)) | (go_at_call 53; (with_reducible refine (impl_in.calls a1 0 10000 false _ A5.out).mono ?_); rintro e w' ⟨rfl, ⟨nd, rfl⟩⟩; (try (rw [drewN_self w21]; generalize hq_ : World.drewN w21 _ = w21; have n0_ : Aside0 (w21.heap[gb101]? = some (.cells #[.int .i64 a0_0, .int .i64 a0_1, .int .i64 a0_2] 33 (0, 0))) := ⟨by rw [← hq_]; exact (by (with_reducible repeat (first | refine blk_drewN ?_ _ | refine blk_drew ?_ | refine blk_alloc ?_ _)); exact BK101.out)⟩; have n1_ : Aside0 (w21.heap[gb102]? = some (.cells #[.int .i64 0, .int .i64 0, .int .i64 0] 33 (0, 0))) := ⟨by rw [← hq_]; exact (by (with_reducible repeat (first | refine blk_drewN ?_ _ | refine blk_drew ?_ | refine blk_alloc ?_ _)); exact BK102.out)⟩; have n2_ : Aside0 (Below w.heap.size w w21) := ⟨by rw [← hq_]; exact (by repeat (first | (with_reducible first | exact HB.out | apply below_alloc | apply pw_below_drewN | apply below_drew1 | refine below_set ?_ GE101.out | refine below_set ?_ GE102.out) | exact HB.out))⟩; clear BK101 BK102 HB hq_; have BK101 := n0_; have BK102 := n1_; have HB := n2_; clear n0_ n1_ n2_)); have hcz22_0 : w21.cell? ⟨gb101, 0, none⟩ = some (.int .i64 a0_0) := (blk_cell BK101.out 0).trans rfl; have hcz22_1 : w21.cell? ⟨gb101, 1, none⟩ = some (.int .i64 a0_1) := (blk_cell BK101.out 1).trans rfl; have hcz22_2 : w21.cell? ⟨gb101, 2, none⟩ = some (.int .i64 a0_2) := (blk_cell BK101.out 2).trans rfl; have hfz22_0 := blk_frozen BK101.out 0; have hfz22_1 := blk_frozen BK101.out 1; have hfz22_2 := blk_frozen BK101.out 2; have hcz23_0 : w21.cell? ⟨gb102, 0, none⟩ = some (.int .i64 0) := (blk_cell BK102.out 0).trans rfl; have hcz23_1 : w21.cell? ⟨gb102, 1, none⟩ = some (.int .i64 0) := (blk_cell BK102.out 1).trans rfl; have hcz23_2 : w21.cell? ⟨gb102, 2, none⟩ = some (.int .i64 0) := (blk_cell BK102.out 2).trans rfl; have hfz23_0 := blk_frozen BK102.out 0; have hfz23_1 := blk_frozen BK102.out 1; have hfz23_2 := blk_frozen BK102.out 2))
      refine bodyPost_ret (results_ct rfl _ _ gb102 33 #[.int .i64 a0_0, .int .i64 a0_1, .int .i64 a0_2] (0, 0) _ rfl (by (with_reducible repeat (first | refine blk_drewN ?_ _ | refine blk_drew ?_ | refine blk_alloc ?_ _)); refine blk_put (cs := #[.int .i64 a0_0, .int .i64 a0_1, .int .i64 0]) ?_ 2 _ rfl; (with_reducible repeat (first | refine blk_drewN ?_ _ | refine blk_drew ?_ | refine blk_alloc ?_ _)); refine blk_put (cs := #[.int .i64 a0_0, .int .i64 0, .int .i64 0]) ?_ 1 _ rfl; (with_reducible repeat (first | refine blk_drewN ?_ _ | refine blk_drew ?_ | refine blk_alloc ?_ _)); refine blk_put (cs := #[.int .i64 0, .int .i64 0, .int .i64 0]) ?_ 0 _ rfl; (with_reducible repeat (first | refine blk_drewN ?_ _ | refine blk_drew ?_ | refine blk_alloc ?_ _)); exact BK102.out) Try.underlying33 rfl (by kernel_rfl)) rfl ?_
      exact ⟨by first | rfl | (simp [errW_none, errW_some] <;> rfl) | (simp [*, errW_none, errW_some] <;> rfl), by repeat (first | (with_reducible first | exact HB.out | apply below_alloc | apply pw_below_drewN | apply below_drew1 | refine below_set ?_ GE101.out | refine below_set ?_ GE102.out) | exact HB.out)⟩
  · replace c4 := Bool.eq_false_iff.mpr c4
    subst c4
    have H1 : (some (a0_0, a0_1, a0_2, (-1))) = some (r1, r2, r3, r4) := by rw [if_neg (show ¬ (false = true) by decide)] at H; exact H
    clear H
    have H := H1
    clear H1
    simp only [Option.some.injEq, Prod.mk.injEq] at H
    obtain ⟨rfl, rfl, rfl, rfl⟩ := H
    go_enter Try.func59, Try.ntmps59
    go_wp2_with (first | ((with_reducible refine gate_dst (N := 2) rfl ?_); refine box_event ?hg (N := 2) ?hd (cs := #[.int .i64 a0_0, .int .i64 a0_1, .int .i64 a0_2]) (t := 33) ?hr ?_; (case hd => rfl); (case hg => rfl); (case hr => first | (go_simp; done) | (go_simp; rfl)); intro gb101 hg w24 hbox hb; have n0_ := Aside0.mk (below_step (by repeat (first | (with_reducible first | exact HB.out | apply below_alloc | apply pw_below_drewN | apply below_drew1) | exact HB.out)) hb); have n1_ := Aside0.mk (hbox); have n2_ := Aside0.mk ((by rw [hg]; exact (below_size (by repeat (first | (with_reducible first | exact HB.out | apply below_alloc | apply pw_below_drewN | apply below_drew1) | exact HB.out))) : w.heap.size ≤ gb101)); have n3_ := Aside0.mk ((by rw [hg]; exact (below_size (by repeat (first | (with_reducible first | exact HB.out | apply below_alloc | apply pw_below_drewN | apply below_drew1) | exact HB.out))) : w.heap.size ≤ gb101)); clear HB; have HB := n0_; have BK101 := n1_; have GW101 := n2_; have GE101 := n3_; clear n0_ n1_ n2_ n3_; clear hb hbox hg) | ((with_reducible refine gate_dst (N := 4) rfl ?_); refine box_event ?hg (N := 4) ?hd (cs := #[.int .i64 0, .int .i64 0, .int .i64 0]) (t := 33) ?hr ?_; (case hd => rfl); (case hg => rfl); (case hr => first | (go_simp; done) | (go_simp; rfl)); intro gb102 hg w25 hbox hb; have n0_ := Aside0.mk (blk_below (g := gb101) (o := .cells #[.int .i64 a0_0, .int .i64 a0_1, .int .i64 a0_2] 33 (0, 0)) (by (with_reducible repeat (first | refine blk_drewN ?_ _ | refine blk_drew ?_ | refine blk_alloc ?_ _)); exact BK101.out) hb); have n1_ := Aside0.mk (below_step (by repeat (first | (with_reducible first | exact HB.out | apply below_alloc | apply pw_below_drewN | apply below_drew1 | refine below_set ?_ GE101.out) | exact HB.out)) hb); have n2_ := Aside0.mk (hbox); have n3_ := Aside0.mk ((by rw [hg]; exact (below_size (by repeat (first | (with_reducible first | exact HB.out | apply below_alloc | apply pw_below_drewN | apply below_drew1 | refine below_set ?_ GE101.out) | exact HB.out))) : w.heap.size ≤ gb102)); have n4_ := Aside0.mk ((by rw [hg]; exact (below_size (by repeat (first | (with_reducible first | exact HB.out | apply below_alloc | apply pw_below_drewN | apply below_drew1 | refine below_set ?_ GE101.out) | exact HB.out))) : w.heap.size ≤ gb102)); have n5_ := Aside0.mk ((by rw [hg]; exact Nat.ne_of_lt (blk_lt (g := gb101) (o := .cells #[.int .i64 a0_0, .int .i64 a0_1, .int .i64 a0_2] 33 (0, 0)) (by (with_reducible repeat (first | refine blk_drewN ?_ _ | refine blk_drew ?_ | refine blk_alloc ?_ _)); exact BK101.out)) : gb101 ≠ gb102)); have n6_ := Aside0.mk ((by rw [hg]; exact Nat.ne_of_gt (blk_lt (g := gb101) (o := .cells #[.int .i64 a0_0, .int .i64 a0_1, .int .i64 a0_2] 33 (0, 0)) (by (with_reducible repeat (first | refine blk_drewN ?_ _ | refine blk_drew ?_ | refine blk_alloc ?_ _)); exact BK101.out)) : gb102 ≠ gb101)); clear BK101; clear HB; have BK101 := n0_; have HB := n1_; have BK102 := n2_; have GW102 := n3_; have GE102 := n4_; have NB101_102 := n5_; have NB102_101 := n6_; clear n0_ n1_ n2_ n3_ n4_ n5_ n6_; clear hb hbox hg; have hnb26 := NB101_102.out; have hnc26 := NB102_101.out; have hcz27_0 : w25.cell? ⟨gb101, 0, none⟩ = some (.int .i64 a0_0) := (blk_cell BK101.out 0).trans rfl; have hcz27_1 : w25.cell? ⟨gb101, 1, none⟩ = some (.int .i64 a0_1) := (blk_cell BK101.out 1).trans rfl; have hcz27_2 : w25.cell? ⟨gb101, 2, none⟩ = some (.int .i64 a0_2) := (blk_cell BK101.out 2).trans rfl; have hfz27_0 := blk_frozen BK101.out 0; have hfz27_1 := blk_frozen BK101.out 1; have hfz27_2 := blk_frozen BK101.out 2) | ((with_reducible refine gate_callee (f := 57) rfl ?_); refine goesL_ (some 8) rfl rfl Try.func57 (by kernel_rfl) rfl #[.agg #[.int .i64 a0_0, .int .i64 a0_1, .int .i64 a0_2]] rfl (by (try simp only [List.map_toArray, List.map_cons, List.map_nil]); first | done | rfl | (simp only [List.length_drop, List.length_take]; rfl)) ?_; (with_reducible refine (impl_RackOk.calls a0_0 a0_1 a0_2 false _ A3.out).mono ?_); rintro e w28 ⟨rfl, hb⟩; refine ⟨_, rfl, ?_⟩; have n0_ := Aside0.mk (blk_below (g := gb101) (o := .cells #[.int .i64 a0_0, .int .i64 a0_1, .int .i64 a0_2] 33 (0, 0)) (by (with_reducible repeat (first | refine blk_drewN ?_ _ | refine blk_drew ?_ | refine blk_alloc ?_ _)); exact BK101.out) hb); have n1_ := Aside0.mk (blk_below (g := gb102) (o := .cells #[.int .i64 0, .int .i64 0, .int .i64 0] 33 (0, 0)) (by (with_reducible repeat (first | refine blk_drewN ?_ _ | refine blk_drew ?_ | refine blk_alloc ?_ _)); exact BK102.out) hb); have n2_ := Aside0.mk (below_step (by repeat (first | (with_reducible first | exact HB.out | apply below_alloc | apply pw_below_drewN | apply below_drew1 | refine below_set ?_ GE101.out | refine below_set ?_ GE102.out) | exact HB.out)) hb); clear BK101; clear BK102; clear HB; have BK101 := n0_; have BK102 := n1_; have HB := n2_; clear n0_ n1_ n2_; (try clear hb); (try clear hb2); (try clear hk); (try clear hi); have hcz29_0 : w28.cell? ⟨gb101, 0, none⟩ = some (.int .i64 a0_0) := (blk_cell BK101.out 0).trans rfl; have hcz29_1 : w28.cell? ⟨gb101, 1, none⟩ = some (.int .i64 a0_1) := (blk_cell BK101.out 1).trans rfl; have hcz29_2 : w28.cell? ⟨gb101, 2, none⟩ = some (.int .i64 a0_2) := (blk_cell BK101.out 2).trans rfl; have hfz29_0 := blk_frozen BK101.out 0; have hfz29_1 := blk_frozen BK101.out 1; have hfz29_2 := blk_frozen BK101.out 2; have hcz30_0 : w28.cell? ⟨gb102, 0, none⟩ = some (.int .i64 0) := (blk_cell BK102.out 0).trans rfl; have hcz30_1 : w28.cell? ⟨gb102, 1, none⟩ = some (.int .i64 0) := (blk_cell BK102.out 1).trans rfl; have hcz30_2 : w28.cell? ⟨gb102, 2, none⟩ = some (.int .i64 0) := (blk_cell BK102.out 2).trans rfl; have hfz30_0 := blk_frozen BK102.out 0; have hfz30_1 := blk_frozen BK102.out 1; have hfz30_2 := blk_frozen BK102.out 2))
    refine bodyPost_ret (results_ct rfl _ _ gb102 33 #[.int .i64 a0_0, .int .i64 a0_1, .int .i64 a0_2] (0, 0) _ rfl (by (with_reducible repeat (first | refine blk_drewN ?_ _ | refine blk_drew ?_ | refine blk_alloc ?_ _)); refine blk_put (cs := #[.int .i64 a0_0, .int .i64 a0_1, .int .i64 0]) ?_ 2 _ rfl; (with_reducible repeat (first | refine blk_drewN ?_ _ | refine blk_drew ?_ | refine blk_alloc ?_ _)); refine blk_put (cs := #[.int .i64 a0_0, .int .i64 0, .int .i64 0]) ?_ 1 _ rfl; (with_reducible repeat (first | refine blk_drewN ?_ _ | refine blk_drew ?_ | refine blk_alloc ?_ _)); refine blk_put (cs := #[.int .i64 0, .int .i64 0, .int .i64 0]) ?_ 0 _ rfl; (with_reducible repeat (first | refine blk_drewN ?_ _ | refine blk_drew ?_ | refine blk_alloc ?_ _)); exact BK102.out) Try.underlying33 rfl (by kernel_rfl)) rfl ?_
    exact ⟨by first | rfl | (simp [errW_none, errW_some] <;> rfl) | (simp [*, errW_none, errW_some] <;> rfl), by repeat (first | (with_reducible first | exact HB.out | apply below_alloc | apply pw_below_drewN | apply below_drew1 | refine below_set ?_ GE101.out | refine below_set ?_ GE102.out) | exact HB.out)⟩
end Go.Proofs.Ytdlmincaplbpgaa.Q
namespace Go.Proofs.Ytdlmincaplbpgaa.Q
open Go.RowKit Go.Proofs.YtdlmincaplbpgaaW.PrintWords Go.Proofs.YtdlmincaplbpgaaW.PrintLast Go.Proofs.YtdlmincaplbpgaaW.PrintMore
attribute [local go_sem] max2_int min2_int max_two min_two max_three min_three max_four min_four
set_option linter.unusedVariables false
set_option linter.unusedSimpArgs false
def impl_SellFresh.f (a0_0 : Int) (a0_1 : Int) (a0_2 : Int) (a1 : Int) : Option (Int × Int × Int × Int) := (impl_RackOk.f a0_0 a0_1 a0_2).bind fun t103 => (if t103 = true then ((impl_in.f a1 0 10000).bind fun t104 => (if t104 = true then ((impl_taken.f a0_0 a0_1 a1).bind fun bt105 => (some (bt105.1, bt105.2.1, a0_2, bt105.2.2))) else (some (a0_0, a0_1, a0_2, (-1))))) else (some (a0_0, a0_1, a0_2, (-1))))
set_option maxHeartbeats 8000000 in
set_option maxRecDepth 100000 in
theorem impl_SellFresh.calls (a0_0 : Int) (a0_1 : Int) (a0_2 : Int) (a1 : Int) (r1 : Int) (r2 : Int) (r3 : Int) (r4 : Int) (w : World) (h : impl_SellFresh.f a0_0 a0_1 a0_2 a1 = some (r1, r2, r3, r4)) :
    Calls Try.prog 58 #[.agg #[.int .i64 a0_0, .int .i64 a0_1, .int .i64 a0_2], .int .i64 a1] w fun e w' => e = .returned (.tuple #[.agg #[.int .i64 r1, .int .i64 r2, .int .i64 r3], .int .i64 r4]) ∧ Below w.heap.size w w' := by
  have hu33 := Try.underlying33
  have HB := Aside0.mk (Below.refl w.heap.size w)
  have H : ((impl_RackOk.f a0_0 a0_1 a0_2).bind fun t103 => (if t103 = true then ((impl_in.f a1 0 10000).bind fun t104 => (if t104 = true then ((impl_taken.f a0_0 a0_1 a1).bind fun bt105 => (some (bt105.1, bt105.2.1, a0_2, bt105.2.2))) else (some (a0_0, a0_1, a0_2, (-1))))) else (some (a0_0, a0_1, a0_2, (-1))))) = some (r1, r2, r3, r4) := h
  clear h
  replace H := Option.bind_eq_some_iff.mp H
  obtain ⟨t103, A30, H⟩ := H
  replace H : (if t103 = true then ((impl_in.f a1 0 10000).bind fun t104 => (if t104 = true then ((impl_taken.f a0_0 a0_1 a1).bind fun bt105 => (some (bt105.1, bt105.2.1, a0_2, bt105.2.2))) else (some (a0_0, a0_1, a0_2, (-1))))) else (some (a0_0, a0_1, a0_2, (-1)))) = some (r1, r2, r3, r4) := H
  have A3 := Aside0.mk A30
  clear A30
  by_cases c4 : t103 = true
  · subst c4
    have H1 : ((impl_in.f a1 0 10000).bind fun t104 => (if t104 = true then ((impl_taken.f a0_0 a0_1 a1).bind fun bt105 => (some (bt105.1, bt105.2.1, a0_2, bt105.2.2))) else (some (a0_0, a0_1, a0_2, (-1))))) = some (r1, r2, r3, r4) := by rw [if_pos rfl] at H; exact H
    clear H
    have H := H1
    clear H1
    replace H := Option.bind_eq_some_iff.mp H
    obtain ⟨t104, A50, H⟩ := H
    replace H : (if t104 = true then ((impl_taken.f a0_0 a0_1 a1).bind fun bt105 => (some (bt105.1, bt105.2.1, a0_2, bt105.2.2))) else (some (a0_0, a0_1, a0_2, (-1)))) = some (r1, r2, r3, r4) := H
    have A5 := Aside0.mk A50
    clear A50
    by_cases c6 : t104 = true
    · subst c6
      have H1 : ((impl_taken.f a0_0 a0_1 a1).bind fun bt105 => (some (bt105.1, bt105.2.1, a0_2, bt105.2.2))) = some (r1, r2, r3, r4) := by rw [if_pos rfl] at H; exact H
      clear H
      have H := H1
      clear H1
      replace H := Option.bind_eq_some_iff.mp H
      obtain ⟨⟨t105, t106, t107⟩, A70, H⟩ := H
      replace H : (some (t105, t106, a0_2, t107)) = some (r1, r2, r3, r4) := H
      have A7 := Aside0.mk A70
      clear A70
      simp only [Option.some.injEq, Prod.mk.injEq] at H
      obtain ⟨rfl, rfl, rfl, rfl⟩ := H
      go_enter Try.func58, Try.ntmps58
      go_wp2_with (first | ((with_reducible refine gate_dst (N := 2) rfl ?_); refine box_event ?hg (N := 2) ?hd (cs := #[.int .i64 a0_0, .int .i64 a0_1, .int .i64 a0_2]) (t := 33) ?hr ?_; (case hd => rfl); (case hg => rfl); (case hr => first | (go_simp; done) | (go_simp; rfl)); intro gb101 hg w8 hbox hb; have n0_ := Aside0.mk (below_step (by repeat (first | (with_reducible first | exact HB.out | apply below_alloc | apply pw_below_drewN | apply below_drew1) | exact HB.out)) hb); have n1_ := Aside0.mk (hbox); have n2_ := Aside0.mk ((by rw [hg]; exact (below_size (by repeat (first | (with_reducible first | exact HB.out | apply below_alloc | apply pw_below_drewN | apply below_drew1) | exact HB.out))) : w.heap.size ≤ gb101)); have n3_ := Aside0.mk ((by rw [hg]; exact (below_size (by repeat (first | (with_reducible first | exact HB.out | apply below_alloc | apply pw_below_drewN | apply below_drew1) | exact HB.out))) : w.heap.size ≤ gb101)); clear HB; have HB := n0_; have BK101 := n1_; have GW101 := n2_; have GE101 := n3_; clear n0_ n1_ n2_ n3_; clear hb hbox hg) | ((with_reducible refine gate_dst (N := 4) rfl ?_); refine box_event ?hg (N := 4) ?hd (cs := #[.int .i64 0, .int .i64 0, .int .i64 0]) (t := 33) ?hr ?_; (case hd => rfl); (case hg => rfl); (case hr => first | (go_simp; done) | (go_simp; rfl)); intro gb102 hg w9 hbox hb; have n0_ := Aside0.mk (blk_below (g := gb101) (o := .cells #[.int .i64 a0_0, .int .i64 a0_1, .int .i64 a0_2] 33 (0, 0)) (by (with_reducible repeat (first | refine blk_drewN ?_ _ | refine blk_drew ?_ | refine blk_alloc ?_ _)); exact BK101.out) hb); have n1_ := Aside0.mk (below_step (by repeat (first | (with_reducible first | exact HB.out | apply below_alloc | apply pw_below_drewN | apply below_drew1 | refine below_set ?_ GE101.out) | exact HB.out)) hb); have n2_ := Aside0.mk (hbox); have n3_ := Aside0.mk ((by rw [hg]; exact (below_size (by repeat (first | (with_reducible first | exact HB.out | apply below_alloc | apply pw_below_drewN | apply below_drew1 | refine below_set ?_ GE101.out) | exact HB.out))) : w.heap.size ≤ gb102)); have n4_ := Aside0.mk ((by rw [hg]; exact (below_size (by repeat (first | (with_reducible first | exact HB.out | apply below_alloc | apply pw_below_drewN | apply below_drew1 | refine below_set ?_ GE101.out) | exact HB.out))) : w.heap.size ≤ gb102)); have n5_ := Aside0.mk ((by rw [hg]; exact Nat.ne_of_lt (blk_lt (g := gb101) (o := .cells #[.int .i64 a0_0, .int .i64 a0_1, .int .i64 a0_2] 33 (0, 0)) (by (with_reducible repeat (first | refine blk_drewN ?_ _ | refine blk_drew ?_ | refine blk_alloc ?_ _)); exact BK101.out)) : gb101 ≠ gb102)); have n6_ := Aside0.mk ((by rw [hg]; exact Nat.ne_of_gt (blk_lt (g := gb101) (o := .cells #[.int .i64 a0_0, .int .i64 a0_1, .int .i64 a0_2] 33 (0, 0)) (by (with_reducible repeat (first | refine blk_drewN ?_ _ | refine blk_drew ?_ | refine blk_alloc ?_ _)); exact BK101.out)) : gb102 ≠ gb101)); clear BK101; clear HB; have BK101 := n0_; have HB := n1_; have BK102 := n2_; have GW102 := n3_; have GE102 := n4_; have NB101_102 := n5_; have NB102_101 := n6_; clear n0_ n1_ n2_ n3_ n4_ n5_ n6_; clear hb hbox hg; have hnb10 := NB101_102.out; have hnc10 := NB102_101.out; have hcz11_0 : w9.cell? ⟨gb101, 0, none⟩ = some (.int .i64 a0_0) := (blk_cell BK101.out 0).trans rfl; have hcz11_1 : w9.cell? ⟨gb101, 1, none⟩ = some (.int .i64 a0_1) := (blk_cell BK101.out 1).trans rfl; have hcz11_2 : w9.cell? ⟨gb101, 2, none⟩ = some (.int .i64 a0_2) := (blk_cell BK101.out 2).trans rfl; have hfz11_0 := blk_frozen BK101.out 0; have hfz11_1 := blk_frozen BK101.out 1; have hfz11_2 := blk_frozen BK101.out 2) | ((with_reducible refine gate_callee (f := 57) rfl ?_); refine goesL_ (some 8) rfl rfl Try.func57 (by kernel_rfl) rfl #[.agg #[.int .i64 a0_0, .int .i64 a0_1, .int .i64 a0_2]] rfl (by (try simp only [List.map_toArray, List.map_cons, List.map_nil]); first | done | rfl | (simp only [List.length_drop, List.length_take]; rfl)) ?_; (with_reducible refine (impl_RackOk.calls a0_0 a0_1 a0_2 true _ A3.out).mono ?_); rintro e w12 ⟨rfl, hb⟩; refine ⟨_, rfl, ?_⟩; have n0_ := Aside0.mk (blk_below (g := gb101) (o := .cells #[.int .i64 a0_0, .int .i64 a0_1, .int .i64 a0_2] 33 (0, 0)) (by (with_reducible repeat (first | refine blk_drewN ?_ _ | refine blk_drew ?_ | refine blk_alloc ?_ _)); exact BK101.out) hb); have n1_ := Aside0.mk (blk_below (g := gb102) (o := .cells #[.int .i64 0, .int .i64 0, .int .i64 0] 33 (0, 0)) (by (with_reducible repeat (first | refine blk_drewN ?_ _ | refine blk_drew ?_ | refine blk_alloc ?_ _)); exact BK102.out) hb); have n2_ := Aside0.mk (below_step (by repeat (first | (with_reducible first | exact HB.out | apply below_alloc | apply pw_below_drewN | apply below_drew1 | refine below_set ?_ GE101.out | refine below_set ?_ GE102.out) | exact HB.out)) hb); clear BK101; clear BK102; clear HB; have BK101 := n0_; have BK102 := n1_; have HB := n2_; clear n0_ n1_ n2_; (try clear hb); (try clear hb2); (try clear hk); (try clear hi)) | (go_at_call 53; (with_reducible refine (impl_in.calls a1 0 10000 true _ A5.out).mono ?_); rintro e w' ⟨rfl, ⟨nd, rfl⟩⟩; (try (rw [drewN_self w12]; generalize hq_ : World.drewN w12 _ = w12; have n0_ : Aside0 (w12.heap[gb101]? = some (.cells #[.int .i64 a0_0, .int .i64 a0_1, .int .i64 a0_2] 33 (0, 0))) := ⟨by rw [← hq_]; exact (by (with_reducible repeat (first | refine blk_drewN ?_ _ | refine blk_drew ?_ | refine blk_alloc ?_ _)); exact BK101.out)⟩; have n1_ : Aside0 (w12.heap[gb102]? = some (.cells #[.int .i64 0, .int .i64 0, .int .i64 0] 33 (0, 0))) := ⟨by rw [← hq_]; exact (by (with_reducible repeat (first | refine blk_drewN ?_ _ | refine blk_drew ?_ | refine blk_alloc ?_ _)); exact BK102.out)⟩; have n2_ : Aside0 (Below w.heap.size w w12) := ⟨by rw [← hq_]; exact (by repeat (first | (with_reducible first | exact HB.out | apply below_alloc | apply pw_below_drewN | apply below_drew1 | refine below_set ?_ GE101.out | refine below_set ?_ GE102.out) | exact HB.out))⟩; clear BK101 BK102 HB hq_; have BK101 := n0_; have BK102 := n1_; have HB := n2_; clear n0_ n1_ n2_)); have hcz13_0 : w12.cell? ⟨gb101, 0, none⟩ = some (.int .i64 a0_0) := (blk_cell BK101.out 0).trans rfl; have hcz13_1 : w12.cell? ⟨gb101, 1, none⟩ = some (.int .i64 a0_1) := (blk_cell BK101.out 1).trans rfl; have hcz13_2 : w12.cell? ⟨gb101, 2, none⟩ = some (.int .i64 a0_2) := (blk_cell BK101.out 2).trans rfl; have hfz13_0 := blk_frozen BK101.out 0; have hfz13_1 := blk_frozen BK101.out 1; have hfz13_2 := blk_frozen BK101.out 2) | ((with_reducible refine gate_callee (f := 95) rfl ?_); refine goesL_ (some 22) rfl rfl Try.func95 (by kernel_rfl) rfl #[.int .i64 a0_0, .int .i64 a0_1, .int .i64 a1] rfl (by (try simp only [List.map_toArray, List.map_cons, List.map_nil]); first | done | rfl | (simp only [List.length_drop, List.length_take]; rfl)) ?_; (with_reducible refine (impl_taken.calls a0_0 a0_1 a1 t105 t106 t107 _ A7.out).mono ?_); rintro e w14 ⟨rfl, hb⟩; refine ⟨_, rfl, ?_⟩; have n0_ := Aside0.mk (blk_below (g := gb101) (o := .cells #[.int .i64 a0_0, .int .i64 a0_1, .int .i64 a0_2] 33 (0, 0)) (by (with_reducible repeat (first | refine blk_drewN ?_ _ | refine blk_drew ?_ | refine blk_alloc ?_ _)); exact BK101.out) hb); have n1_ := Aside0.mk (blk_below (g := gb102) (o := .cells #[.int .i64 0, .int .i64 0, .int .i64 0] 33 (0, 0)) (by (with_reducible repeat (first | refine blk_drewN ?_ _ | refine blk_drew ?_ | refine blk_alloc ?_ _)); exact BK102.out) hb); have n2_ := Aside0.mk (below_step (by repeat (first | (with_reducible first | exact HB.out | apply below_alloc | apply pw_below_drewN | apply below_drew1 | refine below_set ?_ GE101.out | refine below_set ?_ GE102.out) | exact HB.out)) hb); clear BK101; clear BK102; clear HB; have BK101 := n0_; have BK102 := n1_; have HB := n2_; clear n0_ n1_ n2_; (try clear hb); (try clear hb2); (try clear hk); (try clear hi); have hcz15_0 : w14.cell? ⟨gb101, 0, none⟩ = some (.int .i64 a0_0) := (blk_cell BK101.out 0).trans rfl; have hcz15_1 : w14.cell? ⟨gb101, 1, none⟩ = some (.int .i64 a0_1) := (blk_cell BK101.out 1).trans rfl; have hcz15_2 : w14.cell? ⟨gb101, 2, none⟩ = some (.int .i64 a0_2) := (blk_cell BK101.out 2).trans rfl; have hfz15_0 := blk_frozen BK101.out 0; have hfz15_1 := blk_frozen BK101.out 1; have hfz15_2 := blk_frozen BK101.out 2; have hcz16_0 : w14.cell? ⟨gb102, 0, none⟩ = some (.int .i64 0) := (blk_cell BK102.out 0).trans rfl; have hcz16_1 : w14.cell? ⟨gb102, 1, none⟩ = some (.int .i64 0) := (blk_cell BK102.out 1).trans rfl; have hcz16_2 : w14.cell? ⟨gb102, 2, none⟩ = some (.int .i64 0) := (blk_cell BK102.out 2).trans rfl; have hfz16_0 := blk_frozen BK102.out 0; have hfz16_1 := blk_frozen BK102.out 1; have hfz16_2 := blk_frozen BK102.out 2))
      refine bodyPost_ret (results_ct rfl _ _ gb102 33 #[.int .i64 t105, .int .i64 t106, .int .i64 a0_2] (0, 0) _ rfl (by (with_reducible repeat (first | refine blk_drewN ?_ _ | refine blk_drew ?_ | refine blk_alloc ?_ _)); refine blk_put (cs := #[.int .i64 t105, .int .i64 t106, .int .i64 0]) ?_ 2 _ rfl; (with_reducible repeat (first | refine blk_drewN ?_ _ | refine blk_drew ?_ | refine blk_alloc ?_ _)); refine blk_put (cs := #[.int .i64 t105, .int .i64 0, .int .i64 0]) ?_ 1 _ rfl; (with_reducible repeat (first | refine blk_drewN ?_ _ | refine blk_drew ?_ | refine blk_alloc ?_ _)); refine blk_put (cs := #[.int .i64 0, .int .i64 0, .int .i64 0]) ?_ 0 _ rfl; (with_reducible repeat (first | refine blk_drewN ?_ _ | refine blk_drew ?_ | refine blk_alloc ?_ _)); refine blk_far ?_ NB102_101.out _; (with_reducible repeat (first | refine blk_drewN ?_ _ | refine blk_drew ?_ | refine blk_alloc ?_ _)); refine blk_far ?_ NB102_101.out _; (with_reducible repeat (first | refine blk_drewN ?_ _ | refine blk_drew ?_ | refine blk_alloc ?_ _)); exact BK102.out) Try.underlying33 rfl (by kernel_rfl)) rfl ?_
      exact ⟨by first | rfl | (simp [errW_none, errW_some] <;> rfl) | (simp [*, errW_none, errW_some] <;> rfl), by repeat (first | (with_reducible first | exact HB.out | apply below_alloc | apply pw_below_drewN | apply below_drew1 | refine below_set ?_ GE101.out | refine below_set ?_ GE102.out) | exact HB.out)⟩
    · replace c6 := Bool.eq_false_iff.mpr c6
      subst c6
      have H1 : (some (a0_0, a0_1, a0_2, (-1))) = some (r1, r2, r3, r4) := by rw [if_neg (show ¬ (false = true) by decide)] at H; exact H
      clear H
      have H := H1
      clear H1
      simp only [Option.some.injEq, Prod.mk.injEq] at H
      obtain ⟨rfl, rfl, rfl, rfl⟩ := H
      go_enter Try.func58, Try.ntmps58
      go_wp2_with (first | ((with_reducible refine gate_dst (N := 2) rfl ?_); refine box_event ?hg (N := 2) ?hd (cs := #[.int .i64 a0_0, .int .i64 a0_1, .int .i64 a0_2]) (t := 33) ?hr ?_; (case hd => rfl); (case hg => rfl); (case hr => first | (go_simp; done) | (go_simp; rfl)); intro gb101 hg w17 hbox hb; have n0_ := Aside0.mk (below_step (by repeat (first | (with_reducible first | exact HB.out | apply below_alloc | apply pw_below_drewN | apply below_drew1) | exact HB.out)) hb); have n1_ := Aside0.mk (hbox); have n2_ := Aside0.mk ((by rw [hg]; exact (below_size (by repeat (first | (with_reducible first | exact HB.out | apply below_alloc | apply pw_below_drewN | apply below_drew1) | exact HB.out))) : w.heap.size ≤ gb101)); have n3_ := Aside0.mk ((by rw [hg]; exact (below_size (by repeat (first | (with_reducible first | exact HB.out | apply below_alloc | apply pw_below_drewN | apply below_drew1) | exact HB.out))) : w.heap.size ≤ gb101)); clear HB; have HB := n0_; have BK101 := n1_; have GW101 := n2_; have GE101 := n3_; clear n0_ n1_ n2_ n3_; clear hb hbox hg) | ((with_reducible refine gate_dst (N := 4) rfl ?_); refine box_event ?hg (N := 4) ?hd (cs := #[.int .i64 0, .int .i64 0, .int .i64 0]) (t := 33) ?hr ?_; (case hd => rfl); (case hg => rfl); (case hr => first | (go_simp; done) | (go_simp; rfl)); intro gb102 hg w18 hbox hb; have n0_ := Aside0.mk (blk_below (g := gb101) (o := .cells #[.int .i64 a0_0, .int .i64 a0_1, .int .i64 a0_2] 33 (0, 0)) (by (with_reducible repeat (first | refine blk_drewN ?_ _ | refine blk_drew ?_ | refine blk_alloc ?_ _)); exact BK101.out) hb); have n1_ := Aside0.mk (below_step (by repeat (first | (with_reducible first | exact HB.out | apply below_alloc | apply pw_below_drewN | apply below_drew1 | refine below_set ?_ GE101.out) | exact HB.out)) hb); have n2_ := Aside0.mk (hbox); have n3_ := Aside0.mk ((by rw [hg]; exact (below_size (by repeat (first | (with_reducible first | exact HB.out | apply below_alloc | apply pw_below_drewN | apply below_drew1 | refine below_set ?_ GE101.out) | exact HB.out))) : w.heap.size ≤ gb102)); have n4_ := Aside0.mk ((by rw [hg]; exact (below_size (by repeat (first | (with_reducible first | exact HB.out | apply below_alloc | apply pw_below_drewN | apply below_drew1 | refine below_set ?_ GE101.out) | exact HB.out))) : w.heap.size ≤ gb102)); have n5_ := Aside0.mk ((by rw [hg]; exact Nat.ne_of_lt (blk_lt (g := gb101) (o := .cells #[.int .i64 a0_0, .int .i64 a0_1, .int .i64 a0_2] 33 (0, 0)) (by (with_reducible repeat (first | refine blk_drewN ?_ _ | refine blk_drew ?_ | refine blk_alloc ?_ _)); exact BK101.out)) : gb101 ≠ gb102)); have n6_ := Aside0.mk ((by rw [hg]; exact Nat.ne_of_gt (blk_lt (g := gb101) (o := .cells #[.int .i64 a0_0, .int .i64 a0_1, .int .i64 a0_2] 33 (0, 0)) (by (with_reducible repeat (first | refine blk_drewN ?_ _ | refine blk_drew ?_ | refine blk_alloc ?_ _)); exact BK101.out)) : gb102 ≠ gb101)); clear BK101; clear HB; have BK101 := n0_; have HB := n1_; have BK102 := n2_; have GW102 := n3_; have GE102 := n4_; have NB101_102 := n5_; have NB102_101 := n6_; clear n0_ n1_ n2_ n3_ n4_ n5_ n6_; clear hb hbox hg; have hnb19 := NB101_102.out; have hnc19 := NB102_101.out; have hcz20_0 : w18.cell? ⟨gb101, 0, none⟩ = some (.int .i64 a0_0) := (blk_cell BK101.out 0).trans rfl; have hcz20_1 : w18.cell? ⟨gb101, 1, none⟩ = some (.int .i64 a0_1) := (blk_cell BK101.out 1).trans rfl; have hcz20_2 : w18.cell? ⟨gb101, 2, none⟩ = some (.int .i64 a0_2) := (blk_cell BK101.out 2).trans rfl; have hfz20_0 := blk_frozen BK101.out 0; have hfz20_1 := blk_frozen BK101.out 1; have hfz20_2 := blk_frozen BK101.out 2) | ((with_reducible refine gate_callee (f := 57) rfl ?_); refine goesL_ (some 8) rfl rfl Try.func57 (by kernel_rfl) rfl #[.agg #[.int .i64 a0_0, .int .i64 a0_1, .int .i64 a0_2]] rfl (by (try simp only [List.map_toArray, List.map_cons, List.map_nil]); first | done | rfl | (simp only [List.length_drop, List.length_take]; rfl)) ?_; (with_reducible refine (impl_RackOk.calls a0_0 a0_1 a0_2 true _ A3.out).mono ?_); rintro e w21 ⟨rfl, hb⟩; refine ⟨_, rfl, ?_⟩; have n0_ := Aside0.mk (blk_below (g := gb101) (o := .cells #[.int .i64 a0_0, .int .i64 a0_1, .int .i64 a0_2] 33 (0, 0)) (by (with_reducible repeat (first | refine blk_drewN ?_ _ | refine blk_drew ?_ | refine blk_alloc ?_ _)); exact BK101.out) hb); have n1_ := Aside0.mk (blk_below (g := gb102) (o := .cells #[.int .i64 0, .int .i64 0, .int .i64 0] 33 (0, 0)) (by (with_reducible repeat (first | refine blk_drewN ?_ _ | refine blk_drew ?_ | refine blk_alloc ?_ _)); exact BK102.out) hb); have n2_ := Aside0.mk (below_step (by repeat (first | (with_reducible first | exact HB.out | apply below_alloc | apply pw_below_drewN | apply below_drew1 | refine below_set ?_ GE101.out | refine below_set ?_ GE102.out) | exact HB.out)) hb); clear BK101; clear BK102; clear HB; have BK101 := n0_; have BK102 := n1_; have HB := n2_; clear n0_ n1_ n2_; (try clear hb); (try clear hb2); (try clear hk); (try clear hi)) | (go_at_call 53; (with_reducible refine (impl_in.calls a1 0 10000 false _ A5.out).mono ?_); rintro e w' ⟨rfl, ⟨nd, rfl⟩⟩; (try (rw [drewN_self w21]; generalize hq_ : World.drewN w21 _ = w21; have n0_ : Aside0 (w21.heap[gb101]? = some (.cells #[.int .i64 a0_0, .int .i64 a0_1, .int .i64 a0_2] 33 (0, 0))) := ⟨by rw [← hq_]; exact (by (with_reducible repeat (first | refine blk_drewN ?_ _ | refine blk_drew ?_ | refine blk_alloc ?_ _)); exact BK101.out)⟩; have n1_ : Aside0 (w21.heap[gb102]? = some (.cells #[.int .i64 0, .int .i64 0, .int .i64 0] 33 (0, 0))) := ⟨by rw [← hq_]; exact (by (with_reducible repeat (first | refine blk_drewN ?_ _ | refine blk_drew ?_ | refine blk_alloc ?_ _)); exact BK102.out)⟩; have n2_ : Aside0 (Below w.heap.size w w21) := ⟨by rw [← hq_]; exact (by repeat (first | (with_reducible first | exact HB.out | apply below_alloc | apply pw_below_drewN | apply below_drew1 | refine below_set ?_ GE101.out | refine below_set ?_ GE102.out) | exact HB.out))⟩; clear BK101 BK102 HB hq_; have BK101 := n0_; have BK102 := n1_; have HB := n2_; clear n0_ n1_ n2_)); have hcz22_0 : w21.cell? ⟨gb101, 0, none⟩ = some (.int .i64 a0_0) := (blk_cell BK101.out 0).trans rfl; have hcz22_1 : w21.cell? ⟨gb101, 1, none⟩ = some (.int .i64 a0_1) := (blk_cell BK101.out 1).trans rfl; have hcz22_2 : w21.cell? ⟨gb101, 2, none⟩ = some (.int .i64 a0_2) := (blk_cell BK101.out 2).trans rfl; have hfz22_0 := blk_frozen BK101.out 0; have hfz22_1 := blk_frozen BK101.out 1; have hfz22_2 := blk_frozen BK101.out 2; have hcz23_0 : w21.cell? ⟨gb102, 0, none⟩ = some (.int .i64 0) := (blk_cell BK102.out 0).trans rfl; have hcz23_1 : w21.cell? ⟨gb102, 1, none⟩ = some (.int .i64 0) := (blk_cell BK102.out 1).trans rfl; have hcz23_2 : w21.cell? ⟨gb102, 2, none⟩ = some (.int .i64 0) := (blk_cell BK102.out 2).trans rfl; have hfz23_0 := blk_frozen BK102.out 0; have hfz23_1 := blk_frozen BK102.out 1; have hfz23_2 := blk_frozen BK102.out 2))
      refine bodyPost_ret (results_ct rfl _ _ gb102 33 #[.int .i64 a0_0, .int .i64 a0_1, .int .i64 a0_2] (0, 0) _ rfl (by (with_reducible repeat (first | refine blk_drewN ?_ _ | refine blk_drew ?_ | refine blk_alloc ?_ _)); refine blk_put (cs := #[.int .i64 a0_0, .int .i64 a0_1, .int .i64 0]) ?_ 2 _ rfl; (with_reducible repeat (first | refine blk_drewN ?_ _ | refine blk_drew ?_ | refine blk_alloc ?_ _)); refine blk_put (cs := #[.int .i64 a0_0, .int .i64 0, .int .i64 0]) ?_ 1 _ rfl; (with_reducible repeat (first | refine blk_drewN ?_ _ | refine blk_drew ?_ | refine blk_alloc ?_ _)); refine blk_put (cs := #[.int .i64 0, .int .i64 0, .int .i64 0]) ?_ 0 _ rfl; (with_reducible repeat (first | refine blk_drewN ?_ _ | refine blk_drew ?_ | refine blk_alloc ?_ _)); exact BK102.out) Try.underlying33 rfl (by kernel_rfl)) rfl ?_
      exact ⟨by first | rfl | (simp [errW_none, errW_some] <;> rfl) | (simp [*, errW_none, errW_some] <;> rfl), by repeat (first | (with_reducible first | exact HB.out | apply below_alloc | apply pw_below_drewN | apply below_drew1 | refine below_set ?_ GE101.out | refine below_set ?_ GE102.out) | exact HB.out)⟩
  · replace c4 := Bool.eq_false_iff.mpr c4
    subst c4
    have H1 : (some (a0_0, a0_1, a0_2, (-1))) = some (r1, r2, r3, r4) := by rw [if_neg (show ¬ (false = true) by decide)] at H; exact H
    clear H
    have H := H1
    clear H1
    simp only [Option.some.injEq, Prod.mk.injEq] at H
    obtain ⟨rfl, rfl, rfl, rfl⟩ := H
    go_enter Try.func58, Try.ntmps58
    go_wp2_with (first | ((with_reducible refine gate_dst (N := 2) rfl ?_); refine box_event ?hg (N := 2) ?hd (cs := #[.int .i64 a0_0, .int .i64 a0_1, .int .i64 a0_2]) (t := 33) ?hr ?_; (case hd => rfl); (case hg => rfl); (case hr => first | (go_simp; done) | (go_simp; rfl)); intro gb101 hg w24 hbox hb; have n0_ := Aside0.mk (below_step (by repeat (first | (with_reducible first | exact HB.out | apply below_alloc | apply pw_below_drewN | apply below_drew1) | exact HB.out)) hb); have n1_ := Aside0.mk (hbox); have n2_ := Aside0.mk ((by rw [hg]; exact (below_size (by repeat (first | (with_reducible first | exact HB.out | apply below_alloc | apply pw_below_drewN | apply below_drew1) | exact HB.out))) : w.heap.size ≤ gb101)); have n3_ := Aside0.mk ((by rw [hg]; exact (below_size (by repeat (first | (with_reducible first | exact HB.out | apply below_alloc | apply pw_below_drewN | apply below_drew1) | exact HB.out))) : w.heap.size ≤ gb101)); clear HB; have HB := n0_; have BK101 := n1_; have GW101 := n2_; have GE101 := n3_; clear n0_ n1_ n2_ n3_; clear hb hbox hg) | ((with_reducible refine gate_dst (N := 4) rfl ?_); refine box_event ?hg (N := 4) ?hd (cs := #[.int .i64 0, .int .i64 0, .int .i64 0]) (t := 33) ?hr ?_; (case hd => rfl); (case hg => rfl); (case hr => first | (go_simp; done) | (go_simp; rfl)); intro gb102 hg w25 hbox hb; have n0_ := Aside0.mk (blk_below (g := gb101) (o := .cells #[.int .i64 a0_0, .int .i64 a0_1, .int .i64 a0_2] 33 (0, 0)) (by (with_reducible repeat (first | refine blk_drewN ?_ _ | refine blk_drew ?_ | refine blk_alloc ?_ _)); exact BK101.out) hb); have n1_ := Aside0.mk (below_step (by repeat (first | (with_reducible first | exact HB.out | apply below_alloc | apply pw_below_drewN | apply below_drew1 | refine below_set ?_ GE101.out) | exact HB.out)) hb); have n2_ := Aside0.mk (hbox); have n3_ := Aside0.mk ((by rw [hg]; exact (below_size (by repeat (first | (with_reducible first | exact HB.out | apply below_alloc | apply pw_below_drewN | apply below_drew1 | refine below_set ?_ GE101.out) | exact HB.out))) : w.heap.size ≤ gb102)); have n4_ := Aside0.mk ((by rw [hg]; exact (below_size (by repeat (first | (with_reducible first | exact HB.out | apply below_alloc | apply pw_below_drewN | apply below_drew1 | refine below_set ?_ GE101.out) | exact HB.out))) : w.heap.size ≤ gb102)); have n5_ := Aside0.mk ((by rw [hg]; exact Nat.ne_of_lt (blk_lt (g := gb101) (o := .cells #[.int .i64 a0_0, .int .i64 a0_1, .int .i64 a0_2] 33 (0, 0)) (by (with_reducible repeat (first | refine blk_drewN ?_ _ | refine blk_drew ?_ | refine blk_alloc ?_ _)); exact BK101.out)) : gb101 ≠ gb102)); have n6_ := Aside0.mk ((by rw [hg]; exact Nat.ne_of_gt (blk_lt (g := gb101) (o := .cells #[.int .i64 a0_0, .int .i64 a0_1, .int .i64 a0_2] 33 (0, 0)) (by (with_reducible repeat (first | refine blk_drewN ?_ _ | refine blk_drew ?_ | refine blk_alloc ?_ _)); exact BK101.out)) : gb102 ≠ gb101)); clear BK101; clear HB; have BK101 := n0_; have HB := n1_; have BK102 := n2_; have GW102 := n3_; have GE102 := n4_; have NB101_102 := n5_; have NB102_101 := n6_; clear n0_ n1_ n2_ n3_ n4_ n5_ n6_; clear hb hbox hg; have hnb26 := NB101_102.out; have hnc26 := NB102_101.out; have hcz27_0 : w25.cell? ⟨gb101, 0, none⟩ = some (.int .i64 a0_0) := (blk_cell BK101.out 0).trans rfl; have hcz27_1 : w25.cell? ⟨gb101, 1, none⟩ = some (.int .i64 a0_1) := (blk_cell BK101.out 1).trans rfl; have hcz27_2 : w25.cell? ⟨gb101, 2, none⟩ = some (.int .i64 a0_2) := (blk_cell BK101.out 2).trans rfl; have hfz27_0 := blk_frozen BK101.out 0; have hfz27_1 := blk_frozen BK101.out 1; have hfz27_2 := blk_frozen BK101.out 2) | ((with_reducible refine gate_callee (f := 57) rfl ?_); refine goesL_ (some 8) rfl rfl Try.func57 (by kernel_rfl) rfl #[.agg #[.int .i64 a0_0, .int .i64 a0_1, .int .i64 a0_2]] rfl (by (try simp only [List.map_toArray, List.map_cons, List.map_nil]); first | done | rfl | (simp only [List.length_drop, List.length_take]; rfl)) ?_; (with_reducible refine (impl_RackOk.calls a0_0 a0_1 a0_2 false _ A3.out).mono ?_); rintro e w28 ⟨rfl, hb⟩; refine ⟨_, rfl, ?_⟩; have n0_ := Aside0.mk (blk_below (g := gb101) (o := .cells #[.int .i64 a0_0, .int .i64 a0_1, .int .i64 a0_2] 33 (0, 0)) (by (with_reducible repeat (first | refine blk_drewN ?_ _ | refine blk_drew ?_ | refine blk_alloc ?_ _)); exact BK101.out) hb); have n1_ := Aside0.mk (blk_below (g := gb102) (o := .cells #[.int .i64 0, .int .i64 0, .int .i64 0] 33 (0, 0)) (by (with_reducible repeat (first | refine blk_drewN ?_ _ | refine blk_drew ?_ | refine blk_alloc ?_ _)); exact BK102.out) hb); have n2_ := Aside0.mk (below_step (by repeat (first | (with_reducible first | exact HB.out | apply below_alloc | apply pw_below_drewN | apply below_drew1 | refine below_set ?_ GE101.out | refine below_set ?_ GE102.out) | exact HB.out)) hb); clear BK101; clear BK102; clear HB; have BK101 := n0_; have BK102 := n1_; have HB := n2_; clear n0_ n1_ n2_; (try clear hb); (try clear hb2); (try clear hk); (try clear hi); have hcz29_0 : w28.cell? ⟨gb101, 0, none⟩ = some (.int .i64 a0_0) := (blk_cell BK101.out 0).trans rfl; have hcz29_1 : w28.cell? ⟨gb101, 1, none⟩ = some (.int .i64 a0_1) := (blk_cell BK101.out 1).trans rfl; have hcz29_2 : w28.cell? ⟨gb101, 2, none⟩ = some (.int .i64 a0_2) := (blk_cell BK101.out 2).trans rfl; have hfz29_0 := blk_frozen BK101.out 0; have hfz29_1 := blk_frozen BK101.out 1; have hfz29_2 := blk_frozen BK101.out 2; have hcz30_0 : w28.cell? ⟨gb102, 0, none⟩ = some (.int .i64 0) := (blk_cell BK102.out 0).trans rfl; have hcz30_1 : w28.cell? ⟨gb102, 1, none⟩ = some (.int .i64 0) := (blk_cell BK102.out 1).trans rfl; have hcz30_2 : w28.cell? ⟨gb102, 2, none⟩ = some (.int .i64 0) := (blk_cell BK102.out 2).trans rfl; have hfz30_0 := blk_frozen BK102.out 0; have hfz30_1 := blk_frozen BK102.out 1; have hfz30_2 := blk_frozen BK102.out 2))
    refine bodyPost_ret (results_ct rfl _ _ gb102 33 #[.int .i64 a0_0, .int .i64 a0_1, .int .i64 a0_2] (0, 0) _ rfl (by (with_reducible repeat (first | refine blk_drewN ?_ _ | refine blk_drew ?_ | refine blk_alloc ?_ _)); refine blk_put (cs := #[.int .i64 a0_0, .int .i64 a0_1, .int .i64 0]) ?_ 2 _ rfl; (with_reducible repeat (first | refine blk_drewN ?_ _ | refine blk_drew ?_ | refine blk_alloc ?_ _)); refine blk_put (cs := #[.int .i64 a0_0, .int .i64 0, .int .i64 0]) ?_ 1 _ rfl; (with_reducible repeat (first | refine blk_drewN ?_ _ | refine blk_drew ?_ | refine blk_alloc ?_ _)); refine blk_put (cs := #[.int .i64 0, .int .i64 0, .int .i64 0]) ?_ 0 _ rfl; (with_reducible repeat (first | refine blk_drewN ?_ _ | refine blk_drew ?_ | refine blk_alloc ?_ _)); exact BK102.out) Try.underlying33 rfl (by kernel_rfl)) rfl ?_
    exact ⟨by first | rfl | (simp [errW_none, errW_some] <;> rfl) | (simp [*, errW_none, errW_some] <;> rfl), by repeat (first | (with_reducible first | exact HB.out | apply below_alloc | apply pw_below_drewN | apply below_drew1 | refine below_set ?_ GE101.out | refine below_set ?_ GE102.out) | exact HB.out)⟩
end Go.Proofs.Ytdlmincaplbpgaa.Q
namespace Go.Proofs.Ytdlmincaplbpgaa.Q
open Go.RowKit Go.Proofs.YtdlmincaplbpgaaW.PrintWords Go.Proofs.YtdlmincaplbpgaaW.PrintLast Go.Proofs.YtdlmincaplbpgaaW.PrintMore
attribute [local go_sem] max2_int min2_int max_two min_two max_three min_three max_four min_four
set_option linter.unusedVariables false
set_option linter.unusedSimpArgs false
def inR (n lo hi : Int) : Bool := decide (lo ≤ n) && decide (n ≤ hi)
theorem inR_iff (n a b : Int) : inR n a b = true ↔ a ≤ n ∧ n ≤ b := by simp [inR]
def rOk (f d o : Int) : Bool := inR f 0 10000 && (inR d 0 10000 && inR o 0 10000)
theorem rOk_iff (f d o : Int) : rOk f d o = true ↔ (0 ≤ f ∧ f ≤ 10000) ∧ (0 ≤ d ∧ d ≤ 10000) ∧ (0 ≤ o ∧ o ≤ 10000) := by simp [rOk, inR]
def evOn (f d o k n : Int) : Int × Int × Int × Int × Int × Int × Bool :=
  if (rOk f d o && inR n 0 1000) = true then
    if k = 1 then if f + n ≤ 10000 then (f + n, d, o, n, 0, 0, true) else (f, d, o, 0, 0, 0, false)
    else if k = 2 then if n ≤ f + d then (f - mn n f, d - (n - mn n f), o, 0, n, 0, true) else (f, d, o, 0, 0, 0, false)
    else if k = 3 then if n ≤ o + d then (f, d - (n - mn n o), o - mn n o, 0, n, 0, true) else (f, d, o, 0, 0, 0, false)
    else if k = 4 then if n = 0 then (0, f, d, 0, 0, o, true) else (f, d, o, 0, 0, 0, false)
    else (f, d, o, 0, 0, 0, false)
  else (f, d, o, 0, 0, 0, false)
theorem evOn_bounds {f d o k n f' d' o' b s th : Int} {ok : Bool} (h : evOn f d o k n = (f', d', o', b, s, th, ok)) : (0 ≤ b ∧ b ≤ 1000) ∧ (0 ≤ s ∧ s ≤ 1000) ∧ (0 ≤ th ∧ th ≤ 10000) := by
  unfold evOn at h
  by_cases hc : (rOk f d o && inR n 0 1000) = true
  · rw [if_pos hc] at h
    rw [Bool.and_eq_true, rOk_iff, inR_iff] at hc
    repeat' split at h
    all_goals (simp only [Prod.mk.injEq] at h; omega)
  · rw [if_neg hc] at h
    simp only [Prod.mk.injEq] at h
    omega
structure Bk where
  f : Int
  d : Int
  o : Int
  b : Int
  s : Int
  t : Int
def Bk.zero : Bk := ⟨0, 0, 0, 0, 0, 0⟩
def Bk.step (x : Bk) (e : S54) : Option Bk :=
  if (evOn x.f x.d x.o e.f0 e.f1).2.2.2.2.2.2 = true then
    some ⟨(evOn x.f x.d x.o e.f0 e.f1).1, (evOn x.f x.d x.o e.f0 e.f1).2.1, (evOn x.f x.d x.o e.f0 e.f1).2.2.1, x.b + (evOn x.f x.d x.o e.f0 e.f1).2.2.2.1, x.s + (evOn x.f x.d x.o e.f0 e.f1).2.2.2.2.1, x.t + (evOn x.f x.d x.o e.f0 e.f1).2.2.2.2.2.1⟩
  else none
def Bk.run (x : Bk) : List S54 → Option Bk
  | [] => some x
  | e :: l => (x.step e).bind fun y => y.run l
theorem Bk.run_drop (x : Bk) (l : List S54) (i : Nat) (hi : i < l.length) : x.run (l.drop i) = (x.step (rd_T54 l i)).bind fun y => y.run (l.drop (i + 1)) := by
  rw [List.drop_eq_getElem_cons hi, Bk.run]
  simp [rd_T54, List.getD_eq_getElem?_getD, List.getElem?_eq_getElem hi]
def Bk.tally (l : List S54) : Option Bk := if l.length ≤ 40 then Bk.zero.run l else none
def bkOk (l : List S54) (f d o b s t : Int) : Bool := match Bk.tally l with
  | some x => (x.f == f && (x.d == d && (x.o == o))) && ((x.b == b) && ((x.s == s) && (x.t == t)))
  | none => false
def entM (l : List S54) (f d o b s t k n : Int) : List S54 × Int × Int × Int × Int × Int × Int × Bool :=
  if bkOk l f d o b s t = true then
    match Bk.tally (l ++ [⟨k, n⟩]) with
    | some x => (l ++ [⟨k, n⟩], x.f, x.d, x.o, x.b, x.s, x.t, true)
    | none => (l, f, d, o, b, s, t, false)
  else (l, f, d, o, b, s, t, false)
end Go.Proofs.Ytdlmincaplbpgaa.Q
namespace Go.Proofs.Ytdlmincaplbpgaa.Q
open Go.RowKit Go.Proofs.YtdlmincaplbpgaaW.PrintWords Go.Proofs.YtdlmincaplbpgaaW.PrintLast Go.Proofs.YtdlmincaplbpgaaW.PrintMore
attribute [local go_sem] max2_int min2_int max_two min_two max_three min_three max_four min_four
set_option linter.unusedVariables false
set_option linter.unusedSimpArgs false
def Stays (lo : Nat) (W W2 : World) : Prop := W.heap.size ≤ W2.heap.size ∧ ∀ k, lo ≤ k → k < W.heap.size → W2.heap[k]? = W.heap[k]?
theorem Stays.refl (lo : Nat) (W : World) : Stays lo W W := ⟨Nat.le_refl _, fun _ _ _ => rfl⟩
theorem Stays.alloc {lo : Nat} {W W2 : World} (h : Stays lo W W2) (o : Obj) : Stays lo W (W2.alloc o) := ⟨Nat.le_trans h.1 (by simp), fun k h1 h2 => (Below.heap_alloc _ _ _ (Nat.lt_of_lt_of_le h2 h.1)).trans (h.2 k h1 h2)⟩
theorem Stays.drewN {lo : Nat} {W W2 : World} (h : Stays lo W W2) (n : Nat) : Stays lo W (W2.drewN n) := h
theorem Stays.drew {lo : Nat} {W W2 : World} (h : Stays lo W W2) : Stays lo W W2.drew := h
theorem Stays.step {lo : Nat} {W W2 W3 : World} (h : Stays lo W W2) (hb : Below W2.heap.size W2 W3) : Stays lo W W3 := ⟨Nat.le_trans h.1 hb.size, fun k h1 h2 => (hb.block k (Nat.lt_of_lt_of_le h2 h.1)).trans (h.2 k h1 h2)⟩
theorem Stays.setLo {lo : Nat} {W W2 : World} (h : Stays lo W W2) {b j : Nat} (hb : b < lo) (v : Value) : Stays lo W (W2.setCell ⟨b, j, none⟩ v) :=
  ⟨by simpa [World.setCell] using h.1, fun k h1 h2 => (Below.heap_setCell _ _ _ _ (show k ≠ b by omega)).trans (h.2 k h1 h2)⟩
theorem Stays.setHi {lo : Nat} {W W2 : World} (h : Stays lo W W2) {b j : Nat} (hb : W.heap.size ≤ b) (v : Value) : Stays lo W (W2.setCell ⟨b, j, none⟩ v) :=
  ⟨by simpa [World.setCell] using h.1, fun k h1 h2 => (Below.heap_setCell _ _ _ _ (show k ≠ b by omega)).trans (h.2 k h1 h2)⟩
theorem R_stays {α : Type} {d : Kd α} {e base base' : Nat} {W W2 : World} {v : Value} {xs : List α} (h : d.R e W base (fun _ => True) v xs) (hs : Stays base W W2) (hb : base' ≤ base) : d.R e W2 base' (fun _ => True) v xs :=
  Kd.R_lower (Kd.R_mono (Kd.R_move (Kd.R_bound h) (fun k hk => hs.2 k hk.2.1 hk.2.2.1)) (fun _ _ => trivial)) hb
theorem bcell {W w1 : World} (hb : Below W.heap.size W w1) : (∀ b o, b < W.heap.size → w1.cell? ⟨b, o, none⟩ = W.cell? ⟨b, o, none⟩) ∧ (∀ b o, b < W.heap.size → w1.frozen? ⟨b, o, none⟩ = W.frozen? ⟨b, o, none⟩) :=
  ⟨fun b o h => hb.cell (p := ⟨b, o, none⟩) h, fun b o h => hb.frozen (p := ⟨b, o, none⟩) h⟩
theorem blk_all7_1 {w : World} {g : Nat} {t : TypeId} {a0 a1 a2 a3 a4 a5 a6 b1 b2 b3 b4 b5 b6 : Value} (h : w.heap[g]? = some (.cells #[a0, a1, a2, a3, a4, a5, a6] t (0, 0))) : ((((((w.setCell ⟨g, 1, none⟩ b1).setCell ⟨g, 2, none⟩ b2).setCell ⟨g, 3, none⟩ b3).setCell ⟨g, 4, none⟩ b4).setCell ⟨g, 5, none⟩ b5).setCell ⟨g, 6, none⟩ b6).heap[g]? = some (.cells #[a0, b1, b2, b3, b4, b5, b6] t (0, 0)) := (blk_put (cs' := #[a0, b1, b2, b3, b4, b5, b6]) (blk_put (cs' := #[a0, b1, b2, b3, b4, b5, a6]) (blk_put (cs' := #[a0, b1, b2, b3, b4, a5, a6]) (blk_put (cs' := #[a0, b1, b2, b3, a4, a5, a6]) (blk_put (cs' := #[a0, b1, b2, a3, a4, a5, a6]) (blk_put (cs' := #[a0, b1, a2, a3, a4, a5, a6]) h 1 _ rfl) 2 _ rfl) 3 _ rfl) 4 _ rfl) 5 _ rfl) 6 _ rfl)
end Go.Proofs.Ytdlmincaplbpgaa.Q
namespace Go.Proofs.Ytdlmincaplbpgaa.Q
open Go.RowKit Go.Proofs.YtdlmincaplbpgaaW.PrintWords Go.Proofs.YtdlmincaplbpgaaW.PrintLast Go.Proofs.YtdlmincaplbpgaaW.PrintMore
attribute [local go_sem] max2_int min2_int max_two min_two max_three min_three max_four min_four
set_option linter.unusedVariables false
set_option linter.unusedSimpArgs false
theorem impl_in.eq (n lo hi : Int) : impl_in.f n lo hi = some (inR n lo hi) := by
  unfold impl_in.f inR
  by_cases h : lo ≤ n <;> simp [h]
theorem impl_RackOk.eq (f d o : Int) : impl_RackOk.f f d o = some (rOk f d o) := by
  simp [impl_RackOk.f, impl_allIn.f, rOk, inR]
theorem impl_taken.eq {f d n : Int} (h1 : 0 ≤ f ∧ f ≤ 10000) (h2 : 0 ≤ d ∧ d ≤ 10000) (h3 : 0 ≤ n ∧ n ≤ 10000) : impl_taken.f f d n = some (f - mn n f, d - mn (n - mn n f) d, mn n f + mn (n - mn n f) d) := by
  unfold impl_taken.f mn
  simp only [Option.some.injEq, Prod.mk.injEq]
  unfold wrap64
  repeat' split
  all_goals (refine ⟨?_, ?_, ?_⟩ <;> omega)
theorem impl_SellFresh.eq {f d o n : Int} (hr : rOk f d o = true) (hn : inR n 0 10000 = true) : impl_SellFresh.f f d o n = some (f - mn n f, d - mn (n - mn n f) d, o, mn n f + mn (n - mn n f) d) := by
  obtain ⟨h1, h2, h3⟩ := (rOk_iff _ _ _).1 hr
  have h4 := (inR_iff _ _ _).1 hn
  simp only [impl_SellFresh.f, impl_RackOk.eq, impl_in.eq, hr, hn, Option.bind_some, if_true, impl_taken.eq h1 h2 h4]
theorem impl_SellCheap.eq {f d o n : Int} (hr : rOk f d o = true) (hn : inR n 0 10000 = true) : impl_SellCheap.f f d o n = some (f, d - mn (n - mn n o) d, o - mn n o, mn n o + mn (n - mn n o) d) := by
  obtain ⟨h1, h2, h3⟩ := (rOk_iff _ _ _).1 hr
  have h4 := (inR_iff _ _ _).1 hn
  simp only [impl_SellCheap.f, impl_RackOk.eq, impl_in.eq, hr, hn, Option.bind_some, if_true, impl_taken.eq h3 h2 h4]
theorem impl_NextMorning.eq {f d o : Int} (hr : rOk f d o = true) : impl_NextMorning.f f d o 0 = some (0, f, d, o) := by
  simp [impl_NextMorning.f, impl_RackOk.eq, impl_in.eq, hr, inR]
theorem mn_nn {n f d : Int} (h1 : 0 ≤ f) (h2 : 0 ≤ d) (h3 : 0 ≤ n) : (n ≤ f + d → mn n f + mn (n - mn n f) d = n ∧ mn (n - mn n f) d = n - mn n f ∧ 0 ≤ f - mn n f ∧ f - mn n f ≤ f ∧ 0 ≤ d - (n - mn n f) ∧ d - (n - mn n f) ≤ d) ∧ (¬ n ≤ f + d → mn n f + mn (n - mn n f) d ≠ n) := by
  unfold mn
  constructor <;> intro h
  · repeat' split
    all_goals (refine ⟨?_, ?_, ?_, ?_, ?_, ?_⟩ <;> omega)
  · repeat' split
    all_goals omega
def impl_EventOn.f (a0_0 a0_1 a0_2 a1_0 a1_1 : Int) : Option (Int × Int × Int × Int × Int × Int × Bool) := some (evOn a0_0 a0_1 a0_2 a1_0 a1_1)
set_option maxHeartbeats 1000000 in
theorem impl_EventOn.rej1 (a0_0 a0_1 a0_2 a1_0 a1_1 : Int) (w : World) (hr : rOk a0_0 a0_1 a0_2 = false) :
    Calls Try.prog 20 #[.agg #[.int .i64 a0_0, .int .i64 a0_1, .int .i64 a0_2], .agg #[.int .i64 a1_0, .int .i64 a1_1]] w fun e w' => e = .returned (.tuple #[.agg #[.int .i64 a0_0, .int .i64 a0_1, .int .i64 a0_2], .int .i64 0, .int .i64 0, .int .i64 0, .bool false]) ∧ Below w.heap.size w w' := by
  have R1 := Aside0.mk ((impl_RackOk.eq a0_0 a0_1 a0_2).trans (congrArg some hr))
  clear hr
  have da : ∀ (w : World) (n : Nat) (o : Obj), (w.drewN n).alloc o = (w.alloc o).drewN n := fun _ _ _ => rfl
  have ds : ∀ (w : World) (n : Nat) (a : Addr) (v : Value), (w.drewN n).setCell a v = (w.setCell a v).drewN n := fun _ _ _ _ => rfl
  go_enter Try.func20, Try.ntmps20
  go_wp2_with (first | (go_at_call 57; (with_reducible refine (impl_RackOk.calls _ _ _ _ _ R1.out).mono ?_); rintro e w1 ⟨rfl, hb1⟩; obtain ⟨hc1, hf1⟩ := bcell hb1; have : w.heap.size + 1 + 1 < w1.heap.size := (by have := hb1.size; simp at this; omega); have : w.heap.size + 1 < w1.heap.size := (by omega); have : w.heap.size < w1.heap.size := (by omega)))
  refine bodyPost_ret (v := .tuple #[.agg #[.int .i64 a0_0, .int .i64 a0_1, .int .i64 a0_2], .int .i64 0, .int .i64 0, .int .i64 0, .bool false]) (by simp [results, Try.results20, go_sem, *]) rfl ⟨rfl, ?_⟩
  repeat (with_reducible first | exact Below.refl _ _ | apply pw_below_drewN | apply below_drew1 | apply below_alloc | (refine below_set ?_ ?_; rotate_left; omega) | refine below_step ?_ hb1)
set_option maxHeartbeats 1000000 in
theorem impl_EventOn.rej2 (a0_0 a0_1 a0_2 a1_0 a1_1 : Int) (w : World) (hr : rOk a0_0 a0_1 a0_2 = true) (hn : inR a1_1 0 1000 = false) :
    Calls Try.prog 20 #[.agg #[.int .i64 a0_0, .int .i64 a0_1, .int .i64 a0_2], .agg #[.int .i64 a1_0, .int .i64 a1_1]] w fun e w' => e = .returned (.tuple #[.agg #[.int .i64 a0_0, .int .i64 a0_1, .int .i64 a0_2], .int .i64 0, .int .i64 0, .int .i64 0, .bool false]) ∧ Below w.heap.size w w' := by
  have R1 := Aside0.mk ((impl_RackOk.eq a0_0 a0_1 a0_2).trans (congrArg some hr))
  have I1 := Aside0.mk ((impl_in.eq a1_1 0 1000).trans (congrArg some hn))
  clear hr hn
  have da : ∀ (w : World) (n : Nat) (o : Obj), (w.drewN n).alloc o = (w.alloc o).drewN n := fun _ _ _ => rfl
  have ds : ∀ (w : World) (n : Nat) (a : Addr) (v : Value), (w.drewN n).setCell a v = (w.setCell a v).drewN n := fun _ _ _ _ => rfl
  go_enter Try.func20, Try.ntmps20
  go_wp2_with (first | (go_at_call 57; (with_reducible refine (impl_RackOk.calls _ _ _ _ _ R1.out).mono ?_); rintro e w1 ⟨rfl, hb1⟩; obtain ⟨hc1, hf1⟩ := bcell hb1; have : w.heap.size + 1 + 1 < w1.heap.size := (by have := hb1.size; simp at this; omega); have : w.heap.size + 1 < w1.heap.size := (by omega); have : w.heap.size < w1.heap.size := (by omega)) | (go_at_call 53; (with_reducible refine (impl_in.calls _ _ _ _ _ I1.out).mono ?_); rintro e w2 ⟨rfl, ⟨q2, rfl⟩⟩))
  refine bodyPost_ret (v := .tuple #[.agg #[.int .i64 a0_0, .int .i64 a0_1, .int .i64 a0_2], .int .i64 0, .int .i64 0, .int .i64 0, .bool false]) (by simp [results, Try.results20, go_sem, *]) rfl ⟨rfl, ?_⟩
  repeat (with_reducible first | exact Below.refl _ _ | apply pw_below_drewN | apply below_drew1 | apply below_alloc | (refine below_set ?_ ?_; rotate_left; omega) | refine below_step ?_ hb1)
set_option maxHeartbeats 1000000 in
theorem impl_EventOn.bake (a0_0 a0_1 a0_2 a1_1 : Int) (w : World) (hr : rOk a0_0 a0_1 a0_2 = true) (hn : inR a1_1 0 1000 = true) (h : a0_0 + a1_1 ≤ 10000) :
    Calls Try.prog 20 #[.agg #[.int .i64 a0_0, .int .i64 a0_1, .int .i64 a0_2], .agg #[.int .i64 1, .int .i64 a1_1]] w fun e w' => e = .returned (.tuple #[.agg #[.int .i64 (a0_0 + a1_1), .int .i64 a0_1, .int .i64 a0_2], .int .i64 a1_1, .int .i64 0, .int .i64 0, .bool true]) ∧ Below w.heap.size w w' := by
  have R1 := Aside0.mk ((impl_RackOk.eq a0_0 a0_1 a0_2).trans (congrArg some hr))
  have I1 := Aside0.mk ((impl_in.eq a1_1 0 1000).trans (congrArg some hn))
  obtain ⟨⟨_, _⟩, ⟨_, _⟩, ⟨_, _⟩⟩ := (rOk_iff _ _ _).1 hr
  obtain ⟨_, _⟩ := (inR_iff _ _ _).1 hn
  have R2 := Aside0.mk ((impl_RackOk.eq (a0_0 + a1_1) a0_1 a0_2).trans (congrArg some ((rOk_iff _ _ _).2 (by omega))))
  clear hr hn h
  have da : ∀ (w : World) (n : Nat) (o : Obj), (w.drewN n).alloc o = (w.alloc o).drewN n := fun _ _ _ => rfl
  have ds : ∀ (w : World) (n : Nat) (a : Addr) (v : Value), (w.drewN n).setCell a v = (w.setCell a v).drewN n := fun _ _ _ _ => rfl
  go_enter Try.func20, Try.ntmps20
  go_wp2_with (first | (go_at_call 57; (with_reducible refine (impl_RackOk.calls _ _ _ _ _ R1.out).mono ?_); rintro e w1 ⟨rfl, hb1⟩; obtain ⟨hc1, hf1⟩ := bcell hb1; have : w.heap.size + 1 + 1 < w1.heap.size := (by have := hb1.size; simp at this; omega); have : w.heap.size + 1 < w1.heap.size := (by omega); have : w.heap.size < w1.heap.size := (by omega)) | (go_at_call 53; (with_reducible refine (impl_in.calls _ _ _ _ _ I1.out).mono ?_); rintro e w2 ⟨rfl, ⟨q2, rfl⟩⟩) | (go_at_call 57; (with_reducible refine (impl_RackOk.calls _ _ _ _ _ R2.out).mono ?_); rintro e w4 ⟨rfl, hb4⟩; obtain ⟨hc4, hf4⟩ := bcell hb4))
  refine bodyPost_ret (v := .tuple #[.agg #[.int .i64 (a0_0 + a1_1), .int .i64 a0_1, .int .i64 a0_2], .int .i64 a1_1, .int .i64 0, .int .i64 0, .bool true]) (by simp [results, Try.results20, go_sem, *]) rfl ⟨rfl, ?_⟩
  repeat (with_reducible first | exact Below.refl _ _ | apply pw_below_drewN | apply below_drew1 | apply below_alloc | (refine below_set ?_ ?_; rotate_left; omega) | refine below_step ?_ hb1 | refine below_step ?_ hb4)
set_option maxHeartbeats 1000000 in
theorem impl_EventOn.bakeN (a0_0 a0_1 a0_2 a1_1 : Int) (w : World) (hr : rOk a0_0 a0_1 a0_2 = true) (hn : inR a1_1 0 1000 = true) (h : ¬ a0_0 + a1_1 ≤ 10000) :
    Calls Try.prog 20 #[.agg #[.int .i64 a0_0, .int .i64 a0_1, .int .i64 a0_2], .agg #[.int .i64 1, .int .i64 a1_1]] w fun e w' => e = .returned (.tuple #[.agg #[.int .i64 a0_0, .int .i64 a0_1, .int .i64 a0_2], .int .i64 0, .int .i64 0, .int .i64 0, .bool false]) ∧ Below w.heap.size w w' := by
  have R1 := Aside0.mk ((impl_RackOk.eq a0_0 a0_1 a0_2).trans (congrArg some hr))
  have I1 := Aside0.mk ((impl_in.eq a1_1 0 1000).trans (congrArg some hn))
  obtain ⟨⟨_, _⟩, ⟨_, _⟩, ⟨_, _⟩⟩ := (rOk_iff _ _ _).1 hr
  obtain ⟨_, _⟩ := (inR_iff _ _ _).1 hn
  have R2 := Aside0.mk ((impl_RackOk.eq (a0_0 + a1_1) a0_1 a0_2).trans (congrArg some (Bool.eq_false_iff.2 fun hh => h ((rOk_iff _ _ _).1 hh).1.2)))
  clear hr hn h
  have da : ∀ (w : World) (n : Nat) (o : Obj), (w.drewN n).alloc o = (w.alloc o).drewN n := fun _ _ _ => rfl
  have ds : ∀ (w : World) (n : Nat) (a : Addr) (v : Value), (w.drewN n).setCell a v = (w.setCell a v).drewN n := fun _ _ _ _ => rfl
  go_enter Try.func20, Try.ntmps20
  go_wp2_with (first | (go_at_call 57; (with_reducible refine (impl_RackOk.calls _ _ _ _ _ R1.out).mono ?_); rintro e w1 ⟨rfl, hb1⟩; obtain ⟨hc1, hf1⟩ := bcell hb1; have : w.heap.size + 1 + 1 < w1.heap.size := (by have := hb1.size; simp at this; omega); have : w.heap.size + 1 < w1.heap.size := (by omega); have : w.heap.size < w1.heap.size := (by omega)) | (go_at_call 53; (with_reducible refine (impl_in.calls _ _ _ _ _ I1.out).mono ?_); rintro e w2 ⟨rfl, ⟨q2, rfl⟩⟩) | (go_at_call 57; (with_reducible refine (impl_RackOk.calls _ _ _ _ _ R2.out).mono ?_); rintro e w4 ⟨rfl, hb4⟩; obtain ⟨hc4, hf4⟩ := bcell hb4))
  refine bodyPost_ret (v := .tuple #[.agg #[.int .i64 a0_0, .int .i64 a0_1, .int .i64 a0_2], .int .i64 0, .int .i64 0, .int .i64 0, .bool false]) (by simp [results, Try.results20, go_sem, *]) rfl ⟨rfl, ?_⟩
  repeat (with_reducible first | exact Below.refl _ _ | apply pw_below_drewN | apply below_drew1 | apply below_alloc | (refine below_set ?_ ?_; rotate_left; omega) | refine below_step ?_ hb1 | refine below_step ?_ hb4)
set_option maxHeartbeats 1000000 in
theorem impl_EventOn.sell (a0_0 a0_1 a0_2 a1_1 : Int) (w : World) (hr : rOk a0_0 a0_1 a0_2 = true) (hn : inR a1_1 0 1000 = true) (h : a1_1 ≤ a0_0 + a0_1) :
    Calls Try.prog 20 #[.agg #[.int .i64 a0_0, .int .i64 a0_1, .int .i64 a0_2], .agg #[.int .i64 2, .int .i64 a1_1]] w fun e w' => e = .returned (.tuple #[.agg #[.int .i64 (a0_0 - mn a1_1 a0_0), .int .i64 (a0_1 - (a1_1 - mn a1_1 a0_0)), .int .i64 a0_2], .int .i64 0, .int .i64 a1_1, .int .i64 0, .bool true]) ∧ Below w.heap.size w w' := by
  have R1 := Aside0.mk ((impl_RackOk.eq a0_0 a0_1 a0_2).trans (congrArg some hr))
  have I1 := Aside0.mk ((impl_in.eq a1_1 0 1000).trans (congrArg some hn))
  obtain ⟨⟨_, _⟩, ⟨_, _⟩, ⟨_, _⟩⟩ := (rOk_iff _ _ _).1 hr
  obtain ⟨_, _⟩ := (inR_iff _ _ _).1 hn
  have S := impl_SellFresh.eq (n := a1_1) hr ((inR_iff _ _ _).2 (by omega))
  obtain ⟨e1, e2, e3, e4, e5, e6⟩ := (mn_nn (n := a1_1) (f := a0_0) (d := a0_1) (by omega) (by omega) (by omega)).1 h
  rw [e1, e2] at S
  clear e1 e2
  generalize mn a1_1 a0_0 = m at S e3 e4 e5 e6 ⊢
  generalize a0_0 - m = x at S e3 e4 ⊢
  generalize a0_1 - (a1_1 - m) = y at S e5 e6 ⊢
  have R2 := Aside0.mk ((impl_RackOk.eq x y a0_2).trans (congrArg some ((rOk_iff _ _ _).2 (by omega))))
  have S2 := Aside0.mk S
  clear S hr hn h m
  have da : ∀ (w : World) (n : Nat) (o : Obj), (w.drewN n).alloc o = (w.alloc o).drewN n := fun _ _ _ => rfl
  have ds : ∀ (w : World) (n : Nat) (a : Addr) (v : Value), (w.drewN n).setCell a v = (w.setCell a v).drewN n := fun _ _ _ _ => rfl
  go_enter Try.func20, Try.ntmps20
  go_wp2_with (first | (go_at_call 57; (with_reducible refine (impl_RackOk.calls _ _ _ _ _ R1.out).mono ?_); rintro e w1 ⟨rfl, hb1⟩; obtain ⟨hc1, hf1⟩ := bcell hb1; have : w.heap.size + 1 + 1 < w1.heap.size := (by have := hb1.size; simp at this; omega); have : w.heap.size + 1 < w1.heap.size := (by omega); have : w.heap.size < w1.heap.size := (by omega)) | (go_at_call 53; (with_reducible refine (impl_in.calls _ _ _ _ _ I1.out).mono ?_); rintro e w2 ⟨rfl, ⟨q2, rfl⟩⟩) | (go_at_call 58; (with_reducible refine (impl_SellFresh.calls _ _ _ _ _ _ _ _ _ S2.out).mono ?_); rintro e w3 ⟨rfl, hb3⟩; obtain ⟨hc3, hf3⟩ := bcell hb3; have : w1.heap.size < w3.heap.size := (by have := hb3.size; simp at this; omega); have : w.heap.size + 1 + 1 < w3.heap.size := (by omega); have : w.heap.size + 1 < w3.heap.size := (by omega); have : w.heap.size < w3.heap.size := (by omega); have : ¬ w1.heap.size = w.heap.size + 1 + 1 := (by omega); have : ¬ w1.heap.size = w.heap.size + 1 := (by omega); have : ¬ w1.heap.size = w.heap.size := (by omega); have : ¬ w.heap.size + 1 + 1 = w1.heap.size := (by omega); have : ¬ w.heap.size + 1 = w1.heap.size := (by omega); have : ¬ w.heap.size = w1.heap.size := (by omega)) | (go_at_call 57; (with_reducible refine (impl_RackOk.calls _ _ _ _ _ R2.out).mono ?_); rintro e w4 ⟨rfl, hb4⟩; obtain ⟨hc4, hf4⟩ := bcell hb4))
  refine bodyPost_ret (v := .tuple #[.agg #[.int .i64 x, .int .i64 y, .int .i64 a0_2], .int .i64 0, .int .i64 a1_1, .int .i64 0, .bool true]) (by simp [results, Try.results20, go_sem, *]) rfl ⟨rfl, ?_⟩
  repeat (with_reducible first | exact Below.refl _ _ | apply pw_below_drewN | apply below_drew1 | apply below_alloc | (refine below_set ?_ ?_; rotate_left; omega) | refine below_step ?_ hb1 | refine below_step ?_ hb3 | refine below_step ?_ hb4)
set_option maxHeartbeats 1000000 in
theorem impl_EventOn.sellN (a0_0 a0_1 a0_2 a1_1 : Int) (w : World) (hr : rOk a0_0 a0_1 a0_2 = true) (hn : inR a1_1 0 1000 = true) (h : ¬ a1_1 ≤ a0_0 + a0_1) :
    Calls Try.prog 20 #[.agg #[.int .i64 a0_0, .int .i64 a0_1, .int .i64 a0_2], .agg #[.int .i64 2, .int .i64 a1_1]] w fun e w' => e = .returned (.tuple #[.agg #[.int .i64 a0_0, .int .i64 a0_1, .int .i64 a0_2], .int .i64 0, .int .i64 0, .int .i64 0, .bool false]) ∧ Below w.heap.size w w' := by
  have R1 := Aside0.mk ((impl_RackOk.eq a0_0 a0_1 a0_2).trans (congrArg some hr))
  have I1 := Aside0.mk ((impl_in.eq a1_1 0 1000).trans (congrArg some hn))
  obtain ⟨⟨_, _⟩, ⟨_, _⟩, ⟨_, _⟩⟩ := (rOk_iff _ _ _).1 hr
  obtain ⟨_, _⟩ := (inR_iff _ _ _).1 hn
  have S := impl_SellFresh.eq (n := a1_1) hr ((inR_iff _ _ _).2 (by omega))
  have e1 := (mn_nn (n := a1_1) (f := a0_0) (d := a0_1) (by omega) (by omega) (by omega)).2 h
  generalize mn a1_1 a0_0 + mn (a1_1 - mn a1_1 a0_0) a0_1 = s at S e1
  generalize a0_0 - mn a1_1 a0_0 = x at S
  generalize a0_1 - mn (a1_1 - mn a1_1 a0_0) a0_1 = y at S
  have e2 : (s == a1_1) = false := beq_eq_false_iff_ne.2 e1
  have S2 := Aside0.mk S
  clear S hr hn h e1
  have da : ∀ (w : World) (n : Nat) (o : Obj), (w.drewN n).alloc o = (w.alloc o).drewN n := fun _ _ _ => rfl
  have ds : ∀ (w : World) (n : Nat) (a : Addr) (v : Value), (w.drewN n).setCell a v = (w.setCell a v).drewN n := fun _ _ _ _ => rfl
  go_enter Try.func20, Try.ntmps20
  go_wp2_with (first | (go_at_call 57; (with_reducible refine (impl_RackOk.calls _ _ _ _ _ R1.out).mono ?_); rintro e w1 ⟨rfl, hb1⟩; obtain ⟨hc1, hf1⟩ := bcell hb1; have : w.heap.size + 1 + 1 < w1.heap.size := (by have := hb1.size; simp at this; omega); have : w.heap.size + 1 < w1.heap.size := (by omega); have : w.heap.size < w1.heap.size := (by omega)) | (go_at_call 53; (with_reducible refine (impl_in.calls _ _ _ _ _ I1.out).mono ?_); rintro e w2 ⟨rfl, ⟨q2, rfl⟩⟩) | (go_at_call 58; (with_reducible refine (impl_SellFresh.calls _ _ _ _ _ _ _ _ _ S2.out).mono ?_); rintro e w3 ⟨rfl, hb3⟩; obtain ⟨hc3, hf3⟩ := bcell hb3; have : w1.heap.size < w3.heap.size := (by have := hb3.size; simp at this; omega); have : w.heap.size + 1 + 1 < w3.heap.size := (by omega); have : w.heap.size + 1 < w3.heap.size := (by omega); have : w.heap.size < w3.heap.size := (by omega); have : ¬ w1.heap.size = w.heap.size + 1 + 1 := (by omega); have : ¬ w1.heap.size = w.heap.size + 1 := (by omega); have : ¬ w1.heap.size = w.heap.size := (by omega); have : ¬ w.heap.size + 1 + 1 = w1.heap.size := (by omega); have : ¬ w.heap.size + 1 = w1.heap.size := (by omega); have : ¬ w.heap.size = w1.heap.size := (by omega)))
  refine bodyPost_ret (v := .tuple #[.agg #[.int .i64 a0_0, .int .i64 a0_1, .int .i64 a0_2], .int .i64 0, .int .i64 0, .int .i64 0, .bool false]) (by simp [results, Try.results20, go_sem, *]) rfl ⟨rfl, ?_⟩
  repeat (with_reducible first | exact Below.refl _ _ | apply pw_below_drewN | apply below_drew1 | apply below_alloc | (refine below_set ?_ ?_; rotate_left; omega) | refine below_step ?_ hb1 | refine below_step ?_ hb3)
set_option maxHeartbeats 1000000 in
theorem impl_EventOn.cheap (a0_0 a0_1 a0_2 a1_1 : Int) (w : World) (hr : rOk a0_0 a0_1 a0_2 = true) (hn : inR a1_1 0 1000 = true) (h : a1_1 ≤ a0_2 + a0_1) :
    Calls Try.prog 20 #[.agg #[.int .i64 a0_0, .int .i64 a0_1, .int .i64 a0_2], .agg #[.int .i64 3, .int .i64 a1_1]] w fun e w' => e = .returned (.tuple #[.agg #[.int .i64 a0_0, .int .i64 (a0_1 - (a1_1 - mn a1_1 a0_2)), .int .i64 (a0_2 - mn a1_1 a0_2)], .int .i64 0, .int .i64 a1_1, .int .i64 0, .bool true]) ∧ Below w.heap.size w w' := by
  have R1 := Aside0.mk ((impl_RackOk.eq a0_0 a0_1 a0_2).trans (congrArg some hr))
  have I1 := Aside0.mk ((impl_in.eq a1_1 0 1000).trans (congrArg some hn))
  obtain ⟨⟨_, _⟩, ⟨_, _⟩, ⟨_, _⟩⟩ := (rOk_iff _ _ _).1 hr
  obtain ⟨_, _⟩ := (inR_iff _ _ _).1 hn
  have S := impl_SellCheap.eq (n := a1_1) hr ((inR_iff _ _ _).2 (by omega))
  obtain ⟨e1, e2, e3, e4, e5, e6⟩ := (mn_nn (n := a1_1) (f := a0_2) (d := a0_1) (by omega) (by omega) (by omega)).1 h
  rw [e1, e2] at S
  clear e1 e2
  generalize mn a1_1 a0_2 = m at S e3 e4 e5 e6 ⊢
  generalize a0_2 - m = x at S e3 e4 ⊢
  generalize a0_1 - (a1_1 - m) = y at S e5 e6 ⊢
  have R2 := Aside0.mk ((impl_RackOk.eq a0_0 y x).trans (congrArg some ((rOk_iff _ _ _).2 (by omega))))
  have S2 := Aside0.mk S
  clear S hr hn h m
  have da : ∀ (w : World) (n : Nat) (o : Obj), (w.drewN n).alloc o = (w.alloc o).drewN n := fun _ _ _ => rfl
  have ds : ∀ (w : World) (n : Nat) (a : Addr) (v : Value), (w.drewN n).setCell a v = (w.setCell a v).drewN n := fun _ _ _ _ => rfl
  go_enter Try.func20, Try.ntmps20
  go_wp2_with (first | (go_at_call 57; (with_reducible refine (impl_RackOk.calls _ _ _ _ _ R1.out).mono ?_); rintro e w1 ⟨rfl, hb1⟩; obtain ⟨hc1, hf1⟩ := bcell hb1; have : w.heap.size + 1 + 1 < w1.heap.size := (by have := hb1.size; simp at this; omega); have : w.heap.size + 1 < w1.heap.size := (by omega); have : w.heap.size < w1.heap.size := (by omega)) | (go_at_call 53; (with_reducible refine (impl_in.calls _ _ _ _ _ I1.out).mono ?_); rintro e w2 ⟨rfl, ⟨q2, rfl⟩⟩) | (go_at_call 59; (with_reducible refine (impl_SellCheap.calls _ _ _ _ _ _ _ _ _ S2.out).mono ?_); rintro e w3 ⟨rfl, hb3⟩; obtain ⟨hc3, hf3⟩ := bcell hb3; have : w1.heap.size < w3.heap.size := (by have := hb3.size; simp at this; omega); have : w.heap.size + 1 + 1 < w3.heap.size := (by omega); have : w.heap.size + 1 < w3.heap.size := (by omega); have : w.heap.size < w3.heap.size := (by omega); have : ¬ w1.heap.size = w.heap.size + 1 + 1 := (by omega); have : ¬ w1.heap.size = w.heap.size + 1 := (by omega); have : ¬ w1.heap.size = w.heap.size := (by omega); have : ¬ w.heap.size + 1 + 1 = w1.heap.size := (by omega); have : ¬ w.heap.size + 1 = w1.heap.size := (by omega); have : ¬ w.heap.size = w1.heap.size := (by omega)) | (go_at_call 57; (with_reducible refine (impl_RackOk.calls _ _ _ _ _ R2.out).mono ?_); rintro e w4 ⟨rfl, hb4⟩; obtain ⟨hc4, hf4⟩ := bcell hb4))
  refine bodyPost_ret (v := .tuple #[.agg #[.int .i64 a0_0, .int .i64 y, .int .i64 x], .int .i64 0, .int .i64 a1_1, .int .i64 0, .bool true]) (by simp [results, Try.results20, go_sem, *]) rfl ⟨rfl, ?_⟩
  repeat (with_reducible first | exact Below.refl _ _ | apply pw_below_drewN | apply below_drew1 | apply below_alloc | (refine below_set ?_ ?_; rotate_left; omega) | refine below_step ?_ hb1 | refine below_step ?_ hb3 | refine below_step ?_ hb4)
set_option maxHeartbeats 1000000 in
theorem impl_EventOn.cheapN (a0_0 a0_1 a0_2 a1_1 : Int) (w : World) (hr : rOk a0_0 a0_1 a0_2 = true) (hn : inR a1_1 0 1000 = true) (h : ¬ a1_1 ≤ a0_2 + a0_1) :
    Calls Try.prog 20 #[.agg #[.int .i64 a0_0, .int .i64 a0_1, .int .i64 a0_2], .agg #[.int .i64 3, .int .i64 a1_1]] w fun e w' => e = .returned (.tuple #[.agg #[.int .i64 a0_0, .int .i64 a0_1, .int .i64 a0_2], .int .i64 0, .int .i64 0, .int .i64 0, .bool false]) ∧ Below w.heap.size w w' := by
  have R1 := Aside0.mk ((impl_RackOk.eq a0_0 a0_1 a0_2).trans (congrArg some hr))
  have I1 := Aside0.mk ((impl_in.eq a1_1 0 1000).trans (congrArg some hn))
  obtain ⟨⟨_, _⟩, ⟨_, _⟩, ⟨_, _⟩⟩ := (rOk_iff _ _ _).1 hr
  obtain ⟨_, _⟩ := (inR_iff _ _ _).1 hn
  have S := impl_SellCheap.eq (n := a1_1) hr ((inR_iff _ _ _).2 (by omega))
  have e1 := (mn_nn (n := a1_1) (f := a0_2) (d := a0_1) (by omega) (by omega) (by omega)).2 h
  generalize mn a1_1 a0_2 + mn (a1_1 - mn a1_1 a0_2) a0_1 = s at S e1
  generalize a0_2 - mn a1_1 a0_2 = x at S
  generalize a0_1 - mn (a1_1 - mn a1_1 a0_2) a0_1 = y at S
  have e2 : (s == a1_1) = false := beq_eq_false_iff_ne.2 e1
  have S2 := Aside0.mk S
  clear S hr hn h e1
  have da : ∀ (w : World) (n : Nat) (o : Obj), (w.drewN n).alloc o = (w.alloc o).drewN n := fun _ _ _ => rfl
  have ds : ∀ (w : World) (n : Nat) (a : Addr) (v : Value), (w.drewN n).setCell a v = (w.setCell a v).drewN n := fun _ _ _ _ => rfl
  go_enter Try.func20, Try.ntmps20
  go_wp2_with (first | (go_at_call 57; (with_reducible refine (impl_RackOk.calls _ _ _ _ _ R1.out).mono ?_); rintro e w1 ⟨rfl, hb1⟩; obtain ⟨hc1, hf1⟩ := bcell hb1; have : w.heap.size + 1 + 1 < w1.heap.size := (by have := hb1.size; simp at this; omega); have : w.heap.size + 1 < w1.heap.size := (by omega); have : w.heap.size < w1.heap.size := (by omega)) | (go_at_call 53; (with_reducible refine (impl_in.calls _ _ _ _ _ I1.out).mono ?_); rintro e w2 ⟨rfl, ⟨q2, rfl⟩⟩) | (go_at_call 59; (with_reducible refine (impl_SellCheap.calls _ _ _ _ _ _ _ _ _ S2.out).mono ?_); rintro e w3 ⟨rfl, hb3⟩; obtain ⟨hc3, hf3⟩ := bcell hb3; have : w1.heap.size < w3.heap.size := (by have := hb3.size; simp at this; omega); have : w.heap.size + 1 + 1 < w3.heap.size := (by omega); have : w.heap.size + 1 < w3.heap.size := (by omega); have : w.heap.size < w3.heap.size := (by omega); have : ¬ w1.heap.size = w.heap.size + 1 + 1 := (by omega); have : ¬ w1.heap.size = w.heap.size + 1 := (by omega); have : ¬ w1.heap.size = w.heap.size := (by omega); have : ¬ w.heap.size + 1 + 1 = w1.heap.size := (by omega); have : ¬ w.heap.size + 1 = w1.heap.size := (by omega); have : ¬ w.heap.size = w1.heap.size := (by omega)))
  refine bodyPost_ret (v := .tuple #[.agg #[.int .i64 a0_0, .int .i64 a0_1, .int .i64 a0_2], .int .i64 0, .int .i64 0, .int .i64 0, .bool false]) (by simp [results, Try.results20, go_sem, *]) rfl ⟨rfl, ?_⟩
  repeat (with_reducible first | exact Below.refl _ _ | apply pw_below_drewN | apply below_drew1 | apply below_alloc | (refine below_set ?_ ?_; rotate_left; omega) | refine below_step ?_ hb1 | refine below_step ?_ hb3)
set_option maxHeartbeats 1000000 in
theorem impl_EventOn.morning (a0_0 a0_1 a0_2 a1_1 : Int) (w : World) (hr : rOk a0_0 a0_1 a0_2 = true) (hn : inR a1_1 0 1000 = true) (h : a1_1 = 0) :
    Calls Try.prog 20 #[.agg #[.int .i64 a0_0, .int .i64 a0_1, .int .i64 a0_2], .agg #[.int .i64 4, .int .i64 a1_1]] w fun e w' => e = .returned (.tuple #[.agg #[.int .i64 0, .int .i64 a0_0, .int .i64 a0_1], .int .i64 0, .int .i64 0, .int .i64 a0_2, .bool true]) ∧ Below w.heap.size w w' := by
  have R1 := Aside0.mk ((impl_RackOk.eq a0_0 a0_1 a0_2).trans (congrArg some hr))
  have I1 := Aside0.mk ((impl_in.eq a1_1 0 1000).trans (congrArg some hn))
  obtain ⟨⟨_, _⟩, ⟨_, _⟩, ⟨_, _⟩⟩ := (rOk_iff _ _ _).1 hr
  obtain ⟨_, _⟩ := (inR_iff _ _ _).1 hn
  have S2 := Aside0.mk (impl_NextMorning.eq hr)
  subst h
  have R2 := Aside0.mk ((impl_RackOk.eq 0 a0_0 a0_1).trans (congrArg some ((rOk_iff _ _ _).2 (by omega))))
  clear hr hn
  have da : ∀ (w : World) (n : Nat) (o : Obj), (w.drewN n).alloc o = (w.alloc o).drewN n := fun _ _ _ => rfl
  have ds : ∀ (w : World) (n : Nat) (a : Addr) (v : Value), (w.drewN n).setCell a v = (w.setCell a v).drewN n := fun _ _ _ _ => rfl
  go_enter Try.func20, Try.ntmps20
  go_wp2_with (first | (go_at_call 57; (with_reducible refine (impl_RackOk.calls _ _ _ _ _ R1.out).mono ?_); rintro e w1 ⟨rfl, hb1⟩; obtain ⟨hc1, hf1⟩ := bcell hb1; have : w.heap.size + 1 + 1 < w1.heap.size := (by have := hb1.size; simp at this; omega); have : w.heap.size + 1 < w1.heap.size := (by omega); have : w.heap.size < w1.heap.size := (by omega)) | (go_at_call 53; (with_reducible refine (impl_in.calls _ _ _ _ _ I1.out).mono ?_); rintro e w2 ⟨rfl, ⟨q2, rfl⟩⟩) | (go_at_call 60; (with_reducible refine (impl_NextMorning.calls _ _ _ _ _ _ _ _ _ S2.out).mono ?_); rintro e w3 ⟨rfl, hb3⟩; obtain ⟨hc3, hf3⟩ := bcell hb3; have : w1.heap.size < w3.heap.size := (by have := hb3.size; simp at this; omega); have : w.heap.size + 1 + 1 < w3.heap.size := (by omega); have : w.heap.size + 1 < w3.heap.size := (by omega); have : w.heap.size < w3.heap.size := (by omega); have : ¬ w1.heap.size = w.heap.size + 1 + 1 := (by omega); have : ¬ w1.heap.size = w.heap.size + 1 := (by omega); have : ¬ w1.heap.size = w.heap.size := (by omega); have : ¬ w.heap.size + 1 + 1 = w1.heap.size := (by omega); have : ¬ w.heap.size + 1 = w1.heap.size := (by omega); have : ¬ w.heap.size = w1.heap.size := (by omega)) | (go_at_call 57; (with_reducible refine (impl_RackOk.calls _ _ _ _ _ R2.out).mono ?_); rintro e w4 ⟨rfl, hb4⟩; obtain ⟨hc4, hf4⟩ := bcell hb4))
  refine bodyPost_ret (v := .tuple #[.agg #[.int .i64 0, .int .i64 a0_0, .int .i64 a0_1], .int .i64 0, .int .i64 0, .int .i64 a0_2, .bool true]) (by simp [results, Try.results20, go_sem, *]) rfl ⟨rfl, ?_⟩
  repeat (with_reducible first | exact Below.refl _ _ | apply pw_below_drewN | apply below_drew1 | apply below_alloc | (refine below_set ?_ ?_; rotate_left; omega) | refine below_step ?_ hb1 | refine below_step ?_ hb3 | refine below_step ?_ hb4)
set_option maxHeartbeats 1000000 in
theorem impl_EventOn.morningN (a0_0 a0_1 a0_2 a1_1 : Int) (w : World) (hr : rOk a0_0 a0_1 a0_2 = true) (hn : inR a1_1 0 1000 = true) (h : ¬ a1_1 = 0) :
    Calls Try.prog 20 #[.agg #[.int .i64 a0_0, .int .i64 a0_1, .int .i64 a0_2], .agg #[.int .i64 4, .int .i64 a1_1]] w fun e w' => e = .returned (.tuple #[.agg #[.int .i64 a0_0, .int .i64 a0_1, .int .i64 a0_2], .int .i64 0, .int .i64 0, .int .i64 0, .bool false]) ∧ Below w.heap.size w w' := by
  have R1 := Aside0.mk ((impl_RackOk.eq a0_0 a0_1 a0_2).trans (congrArg some hr))
  have I1 := Aside0.mk ((impl_in.eq a1_1 0 1000).trans (congrArg some hn))
  obtain ⟨⟨_, _⟩, ⟨_, _⟩, ⟨_, _⟩⟩ := (rOk_iff _ _ _).1 hr
  obtain ⟨_, _⟩ := (inR_iff _ _ _).1 hn
  have S2 := Aside0.mk (impl_NextMorning.eq hr)
  have e2 : (a1_1 == 0) = false := beq_eq_false_iff_ne.2 h
  clear hr hn h
  have da : ∀ (w : World) (n : Nat) (o : Obj), (w.drewN n).alloc o = (w.alloc o).drewN n := fun _ _ _ => rfl
  have ds : ∀ (w : World) (n : Nat) (a : Addr) (v : Value), (w.drewN n).setCell a v = (w.setCell a v).drewN n := fun _ _ _ _ => rfl
  go_enter Try.func20, Try.ntmps20
  go_wp2_with (first | (go_at_call 57; (with_reducible refine (impl_RackOk.calls _ _ _ _ _ R1.out).mono ?_); rintro e w1 ⟨rfl, hb1⟩; obtain ⟨hc1, hf1⟩ := bcell hb1; have : w.heap.size + 1 + 1 < w1.heap.size := (by have := hb1.size; simp at this; omega); have : w.heap.size + 1 < w1.heap.size := (by omega); have : w.heap.size < w1.heap.size := (by omega)) | (go_at_call 53; (with_reducible refine (impl_in.calls _ _ _ _ _ I1.out).mono ?_); rintro e w2 ⟨rfl, ⟨q2, rfl⟩⟩) | (go_at_call 60; (with_reducible refine (impl_NextMorning.calls _ _ _ _ _ _ _ _ _ S2.out).mono ?_); rintro e w3 ⟨rfl, hb3⟩; obtain ⟨hc3, hf3⟩ := bcell hb3; have : w1.heap.size < w3.heap.size := (by have := hb3.size; simp at this; omega); have : w.heap.size + 1 + 1 < w3.heap.size := (by omega); have : w.heap.size + 1 < w3.heap.size := (by omega); have : w.heap.size < w3.heap.size := (by omega); have : ¬ w1.heap.size = w.heap.size + 1 + 1 := (by omega); have : ¬ w1.heap.size = w.heap.size + 1 := (by omega); have : ¬ w1.heap.size = w.heap.size := (by omega); have : ¬ w.heap.size + 1 + 1 = w1.heap.size := (by omega); have : ¬ w.heap.size + 1 = w1.heap.size := (by omega); have : ¬ w.heap.size = w1.heap.size := (by omega)))
  refine bodyPost_ret (v := .tuple #[.agg #[.int .i64 a0_0, .int .i64 a0_1, .int .i64 a0_2], .int .i64 0, .int .i64 0, .int .i64 0, .bool false]) (by simp [results, Try.results20, go_sem, *]) rfl ⟨rfl, ?_⟩
  repeat (with_reducible first | exact Below.refl _ _ | apply pw_below_drewN | apply below_drew1 | apply below_alloc | (refine below_set ?_ ?_; rotate_left; omega) | refine below_step ?_ hb1 | refine below_step ?_ hb3)
set_option maxHeartbeats 1000000 in
theorem impl_EventOn.other (a0_0 a0_1 a0_2 a1_0 a1_1 : Int) (w : World) (hr : rOk a0_0 a0_1 a0_2 = true) (hn : inR a1_1 0 1000 = true) (k1 : ¬ a1_0 = 1) (k2 : ¬ a1_0 = 2) (k3 : ¬ a1_0 = 3) (k4 : ¬ a1_0 = 4) :
    Calls Try.prog 20 #[.agg #[.int .i64 a0_0, .int .i64 a0_1, .int .i64 a0_2], .agg #[.int .i64 a1_0, .int .i64 a1_1]] w fun e w' => e = .returned (.tuple #[.agg #[.int .i64 a0_0, .int .i64 a0_1, .int .i64 a0_2], .int .i64 0, .int .i64 0, .int .i64 0, .bool false]) ∧ Below w.heap.size w w' := by
  have R1 := Aside0.mk ((impl_RackOk.eq a0_0 a0_1 a0_2).trans (congrArg some hr))
  have I1 := Aside0.mk ((impl_in.eq a1_1 0 1000).trans (congrArg some hn))
  obtain ⟨⟨_, _⟩, ⟨_, _⟩, ⟨_, _⟩⟩ := (rOk_iff _ _ _).1 hr
  obtain ⟨_, _⟩ := (inR_iff _ _ _).1 hn
  replace k1 := beq_eq_false_iff_ne.2 k1
  replace k2 := beq_eq_false_iff_ne.2 k2
  replace k3 := beq_eq_false_iff_ne.2 k3
  replace k4 := beq_eq_false_iff_ne.2 k4
  clear hr hn
  have da : ∀ (w : World) (n : Nat) (o : Obj), (w.drewN n).alloc o = (w.alloc o).drewN n := fun _ _ _ => rfl
  have ds : ∀ (w : World) (n : Nat) (a : Addr) (v : Value), (w.drewN n).setCell a v = (w.setCell a v).drewN n := fun _ _ _ _ => rfl
  go_enter Try.func20, Try.ntmps20
  go_wp2_with (first | (go_at_call 57; (with_reducible refine (impl_RackOk.calls _ _ _ _ _ R1.out).mono ?_); rintro e w1 ⟨rfl, hb1⟩; obtain ⟨hc1, hf1⟩ := bcell hb1; have : w.heap.size + 1 + 1 < w1.heap.size := (by have := hb1.size; simp at this; omega); have : w.heap.size + 1 < w1.heap.size := (by omega); have : w.heap.size < w1.heap.size := (by omega)) | (go_at_call 53; (with_reducible refine (impl_in.calls _ _ _ _ _ I1.out).mono ?_); rintro e w2 ⟨rfl, ⟨q2, rfl⟩⟩))
  refine bodyPost_ret (v := .tuple #[.agg #[.int .i64 a0_0, .int .i64 a0_1, .int .i64 a0_2], .int .i64 0, .int .i64 0, .int .i64 0, .bool false]) (by simp [results, Try.results20, go_sem, *]) rfl ⟨rfl, ?_⟩
  repeat (with_reducible first | exact Below.refl _ _ | apply pw_below_drewN | apply below_drew1 | apply below_alloc | (refine below_set ?_ ?_; rotate_left; omega) | refine below_step ?_ hb1)
theorem impl_EventOn.calls (a0_0 : Int) (a0_1 : Int) (a0_2 : Int) (a1_0 : Int) (a1_1 : Int) (r1 : Int) (r2 : Int) (r3 : Int) (r4 : Int) (r5 : Int) (r6 : Int) (r7 : Bool) (w : World) (h : impl_EventOn.f a0_0 a0_1 a0_2 a1_0 a1_1 = some (r1, r2, r3, r4, r5, r6, r7)) :
    Calls Try.prog 20 #[.agg #[.int .i64 a0_0, .int .i64 a0_1, .int .i64 a0_2], .agg #[.int .i64 a1_0, .int .i64 a1_1]] w fun e w' => e = .returned (.tuple #[.agg #[.int .i64 r1, .int .i64 r2, .int .i64 r3], .int .i64 r4, .int .i64 r5, .int .i64 r6, .bool r7]) ∧ Below w.heap.size w w' := by
  replace h : evOn a0_0 a0_1 a0_2 a1_0 a1_1 = _ := Option.some.inj h
  unfold evOn at h
  cases hr : rOk a0_0 a0_1 a0_2 with
  | false =>
    simp only [hr, Bool.false_and, Bool.false_eq_true, if_false, Prod.mk.injEq] at h
    obtain ⟨rfl, rfl, rfl, rfl, rfl, rfl, rfl⟩ := h
    exact impl_EventOn.rej1 _ _ _ _ _ w hr
  | true =>
    cases hn : inR a1_1 0 1000 with
    | false =>
      simp only [hr, hn, Bool.and_false, Bool.false_eq_true, if_false, Prod.mk.injEq] at h
      obtain ⟨rfl, rfl, rfl, rfl, rfl, rfl, rfl⟩ := h
      exact impl_EventOn.rej2 _ _ _ _ _ w hr hn
    | true =>
      simp only [hr, hn, Bool.and_self, if_true] at h
      by_cases k1 : a1_0 = 1
      · subst k1
        rw [if_pos rfl] at h
        by_cases hc : a0_0 + a1_1 ≤ 10000
        · rw [if_pos hc] at h
          simp only [Prod.mk.injEq] at h
          obtain ⟨rfl, rfl, rfl, rfl, rfl, rfl, rfl⟩ := h
          exact impl_EventOn.bake _ _ _ _ w hr hn hc
        · rw [if_neg hc] at h
          simp only [Prod.mk.injEq] at h
          obtain ⟨rfl, rfl, rfl, rfl, rfl, rfl, rfl⟩ := h
          exact impl_EventOn.bakeN _ _ _ _ w hr hn hc
      rw [if_neg k1] at h
      by_cases k2 : a1_0 = 2
      · subst k2
        rw [if_pos rfl] at h
        by_cases hc : a1_1 ≤ a0_0 + a0_1
        · rw [if_pos hc] at h
          simp only [Prod.mk.injEq] at h
          obtain ⟨rfl, rfl, rfl, rfl, rfl, rfl, rfl⟩ := h
          exact impl_EventOn.sell _ _ _ _ w hr hn hc
        · rw [if_neg hc] at h
          simp only [Prod.mk.injEq] at h
          obtain ⟨rfl, rfl, rfl, rfl, rfl, rfl, rfl⟩ := h
          exact impl_EventOn.sellN _ _ _ _ w hr hn hc
      rw [if_neg k2] at h
      by_cases k3 : a1_0 = 3
      · subst k3
        rw [if_pos rfl] at h
        by_cases hc : a1_1 ≤ a0_2 + a0_1
        · rw [if_pos hc] at h
          simp only [Prod.mk.injEq] at h
          obtain ⟨rfl, rfl, rfl, rfl, rfl, rfl, rfl⟩ := h
          exact impl_EventOn.cheap _ _ _ _ w hr hn hc
        · rw [if_neg hc] at h
          simp only [Prod.mk.injEq] at h
          obtain ⟨rfl, rfl, rfl, rfl, rfl, rfl, rfl⟩ := h
          exact impl_EventOn.cheapN _ _ _ _ w hr hn hc
      rw [if_neg k3] at h
      by_cases k4 : a1_0 = 4
      · subst k4
        rw [if_pos rfl] at h
        by_cases hc : a1_1 = 0
        · rw [if_pos hc] at h
          simp only [Prod.mk.injEq] at h
          obtain ⟨rfl, rfl, rfl, rfl, rfl, rfl, rfl⟩ := h
          exact impl_EventOn.morning _ _ _ _ w hr hn hc
        · rw [if_neg hc] at h
          simp only [Prod.mk.injEq] at h
          obtain ⟨rfl, rfl, rfl, rfl, rfl, rfl, rfl⟩ := h
          exact impl_EventOn.morningN _ _ _ _ w hr hn hc
      rw [if_neg k4] at h
      simp only [Prod.mk.injEq] at h
      obtain ⟨rfl, rfl, rfl, rfl, rfl, rfl, rfl⟩ := h
      exact impl_EventOn.other _ _ _ _ _ w hr hn k1 k2 k3 k4
end Go.Proofs.Ytdlmincaplbpgaa.Q
namespace Go.Proofs.Ytdlmincaplbpgaa.Q
open Go.RowKit Go.Proofs.YtdlmincaplbpgaaW.PrintWords Go.Proofs.YtdlmincaplbpgaaW.PrintLast Go.Proofs.YtdlmincaplbpgaaW.PrintMore
attribute [local go_sem] max2_int min2_int max_two min_two max_three min_three max_four min_four
set_option linter.unusedVariables false
set_option linter.unusedSimpArgs false
theorem R_empty {α : Type} (d : Kd α) (e : Nat) (W0 : World) (g : Nat) (hg : W0.heap.size = g) : d.R e (W0.alloc (.cells #[] e)) g (fun _ => True) (.slice (some ⟨g, 0, none⟩) 0 0) [] := by
  subst hg
  refine ⟨fun _ _ => trivial, [], ?_, Reps.none _ _⟩
  have h2 := World.ownsRow_lit (base := W0.heap.size) (e := e) (size := d.sz) W0 #[] 0 (Nat.le_refl _) (by simp [maxLen]) (by simp)
  simpa using h2
section
variable {P : Program} {ops : Array Oper} {rest : List Oper} {o : Oper} {a : Act} {Q : Exit → Act → World → Prop} {α : Type}
theorem app_copy (d : Kd α) {W0 : World} (g : Nat) (hg : W0.heap.size = g) (hgd : o.guard = none) (s x : Operand) (t e : TypeId) (z : Value) (bytes : Nat)
    (ho : o.op = .call { callee := .builtin .append, args := #[s, x], argTypes := #[t, t] })
    (ht : P.underlying t = some (.slice e)) (hinfo : (P.info? e).map (fun i => (i.zero, i.size, i.bytes)) = some (some z, d.sz, bytes)) (hz : z.cells.size = d.sz) (hs0 : 0 < d.sz) (hb0 : 0 < bytes)
    (ys : List α) (A : Option Addr) (c : Nat) (hs : a.eval s = .slice (some ⟨g, 0, none⟩) 0 0) (hx : a.eval x = .slice A ys.length c)
    (HR : d.C W0 A ys.length ys) (hKM : ∀ x cs, d.K (W0.alloc (.cells #[] e)) x cs → d.M (W0.alloc (.cells #[] e)) g (fun _ => False) x cs) (hl : ys.length * bytes ≤ 140737488355328)
    (h : ∀ v1 w1, d.R e w1 g (fun _ => True) v1 ys → Below W0.heap.size W0 w1 → wpList P ops Q rest (a.put o.dst v1) w1) :
    wpList P ops Q (o :: rest) a (W0.alloc (.cells #[] e)) := by
  refine Kd.R_append_rows d (Rr := d.K (W0.alloc (.cells #[] e))) (w0 := W0) g hgd s x t e z bytes ho ht hinfo hz hs0 hb0 _ [] ys A ys.length c (fun _ => True) (fun _ => False) hs hx (R_empty d e W0 g hg) ?_ hKM (fun _ h => h.elim) (fun _ _ => trivial) ?_ ?_ (by simpa using hl) ?_
  · exact Kd.C_alloc HR _
  · subst hg; exact below_alloc (Below.refl _ _) _
  · rw [← hg]; simp
  · intro v1 w1 ho hb _ _
    subst hg
    exact h v1 w1 (by simpa using ho) hb
end
section
variable {P : Program} {α : Type}
theorem run_app_one (d : Kd α) (W : World) (base : Nat) (t ty e : TypeId) (z : Value) (bytes : Nat) (ht : P.underlying t = some (.slice e)) (hinfo : (P.info? e).map (fun i => (i.zero, i.size, i.bytes)) = some (some z, d.sz, bytes)) (hz : z.cells.size = d.sz) (hs0 : 0 < d.sz) (hb0 : 0 < bytes)
    (v : Value) (xs : List α) (p : α) (cs : List Value) (gx : Nat) (HO : d.R e W base (fun _ => True) v xs) (hp : d.M W base (fun _ => False) p cs) (hblk : W.heap[gx]? = some (.cells cs.toArray e (0, 0))) (hbase : base ≤ W.heap.size) (hl : (xs.length + 1) * bytes ≤ 140737488355328) :
    ∃ v1 w1, (Builtin.append_ #[t, t] ty #[v, .slice (some ⟨gx, 0, none⟩) 1 1]).run P W = .ok v1 w1 ∧ d.R e w1 base (fun _ => True) v1 (xs ++ [p]) ∧ Below base W w1 ∧ W.grownBy w1 v.ownBlock := by
  obtain ⟨i0, hi, hzz⟩ := Option.map_eq_some_iff.1 hinfo
  simp only [Prod.mk.injEq] at hzz
  obtain ⟨hz0, hz1, hz2⟩ := hzz
  have hlen : xs.length + 1 ≤ 140737488355328 := Nat.le_trans (Nat.le_mul_of_pos_right _ hb0) hl
  obtain ⟨h0, inner, hown, hr⟩ := HO
  have hb2 := own_base hown
  obtain ⟨v1, w1, hrun, hown1, hg, _, hat⟩ := run_append_own_at (P := P) W base t ty e i0 z d.sz bytes ht hi hz0 hz1 hz2 hz hs0 v xs.length inner hown ⟨gx, 0, none⟩ 1 1 cs (by rw [d.K_len (d.K_of_M hp)]; simp)
    (by simpa using World.news_of_block (cs := cs.toArray) (t := e) (fr := (0, 0)) hblk) (d.K_one (d.K_of_M hp)) (by simp only [maxLen]; omega) hl hbase
  refine ⟨v1, w1, hrun, Kd.R_appended (okp := fun _ => False) h0 hr hp (fun _ h => h.elim) (fun _ _ => trivial) hown1 hg ?_, ⟨hg.os, hg.tape, hg.output, hg.size, fun k hk => hg.block k (by omega) (fun e => by have := hb2 k e.symm; omega)⟩, hg⟩
  rcases hat with hat | hat
  · exact .inl hat
  · exact .inr ⟨_, hat, Nat.le_refl _⟩
variable {ops : Array Oper} {rest : List Oper} {o : Oper} {a : Act} {Q : Exit → Act → World → Prop}
end
end Go.Proofs.Ytdlmincaplbpgaa.Q
namespace Go.Proofs.Ytdlmincaplbpgaa.Q
open Go.RowKit Go.Proofs.YtdlmincaplbpgaaW.PrintWords Go.Proofs.YtdlmincaplbpgaaW.PrintLast Go.Proofs.YtdlmincaplbpgaaW.PrintMore
attribute [local go_sem] max2_int min2_int max_two min_two max_three min_three max_four min_four
set_option linter.unusedVariables false
set_option linter.unusedSimpArgs false
def impl_counted.f (l0 : List S54) : Option ((List S54) × Int × Int × Int × Int × Int × Int × Bool) :=
  if l0.length < 8796093022208 then some (match Bk.zero.run l0 with
    | some x => (l0, x.f, x.d, x.o, x.b, x.s, x.t, decide ((l0.length : Int) ≤ 40))
    | none => ([], 0, 0, 0, 0, 0, 0, false)) else none
set_option maxHeartbeats 2000000 in
theorem impl_counted.calls (A0 : Option Addr) (c0 : Nat) (l0 : List S54) (r1 : List S54) (r2 : Int) (r3 : Int) (r4 : Int) (r5 : Int) (r6 : Int) (r7 : Int) (r8 : Bool) (w : World) (hr0 : Kd.C k54 w A0 l0.length l0) (hc0 : l0.length ≤ c0) (h : impl_counted.f l0 = some (r1, r2, r3, r4, r5, r6, r7, r8)) :
    Calls Try.prog 54 #[.slice A0 l0.length c0] w fun e w' => ∃ v0_ : Value, e = .returned (.tuple #[.agg #[v0_, .int .i64 r2, .int .i64 r3, .int .i64 r4, .int .i64 r5, .int .i64 r6, .int .i64 r7], .bool r8]) ∧ Kd.R k54 54 w' w.heap.size (fun _ => True) v0_ r1 ∧ Below w.heap.size w w' := by
  unfold impl_counted.f at h
  by_cases hl : l0.length < 8796093022208
  · rw [if_pos hl] at h
    have H := Aside0.mk (Option.some.inj h)
    have HR := Aside0.mk hr0
    have HL := Aside0.mk hl
    clear hr0 hl h
    have da : ∀ (w : World) (n : Nat) (o : Obj), (w.drewN n).alloc o = (w.alloc o).drewN n := fun _ _ _ => rfl
    have ds : ∀ (w : World) (n : Nat) (a : Addr) (v : Value), (w.drewN n).setCell a v = (w.setCell a v).drewN n := fun _ _ _ _ => rfl
    go_enter Try.func54, Try.ntmps54
    go_wp2_with (first | ((with_reducible refine gate_builtin (b := .append) (xs := #[.tmp 12, .tmp 13]) rfl ?_); at_builtin; refine app_copy k54 (w.heap.size + 1) (by simp) rfl (.tmp 12) (.tmp 13) 31 54 (.agg #[(.int .i64 0), (.int .i64 0)]) 16 rfl Try.underlying31 info54 rfl (by decide) (by omega) l0 _ _ rfl rfl (Kd.C_below HR.out (below_alloc (Below.refl _ _) _)) (fun _ _ h => h) ((by have := HL.out; omega)) ?_; intro v1 w1 ho1 hb1; obtain ⟨hc1, hf1⟩ := bcell hb1; have : w.heap.size < w1.heap.size := (by have := hb1.size; simp at this; omega); obtain ⟨A1, c1, rfl⟩ := Kd.R_slice ho1; have HO := Aside0.mk ho1; clear ho1))
    have HB1 := Aside0.mk (show Below w.heap.size w w1 from below_step (below_alloc (Below.refl _ _) _) hb1)
    have HZ := Aside0.mk (show w1.heap[w.heap.size]? = some (.cells #[.slice none 0 0, .int .i64 0, .int .i64 0, .int .i64 0, .int .i64 0, .int .i64 0, .int .i64 0] 35 (0, 0)) from blk_below (blk_new w _) hb1)
    clear hb1 hc1 hf1
    have hlt1 : w.heap.size < w1.heap.size := by assumption
    go_loopg [18] l0.length (fun gg v18 W => ∃ (i : Nat) (x : Bk), v18 = .int .i64 i ∧ Aside0 (i ≤ l0.length ∧ l0.length - i ≤ gg) ∧ Aside0 (x.run (l0.drop i) = Bk.zero.run l0) ∧ Aside0 ((0 ≤ x.b ∧ x.b ≤ 10000 * i) ∧ (0 ≤ x.s ∧ x.s ≤ 10000 * i) ∧ (0 ≤ x.t ∧ x.t ≤ 10000 * i)) ∧
      Aside0 (W.heap[w1.heap.size]? = some (.cells #[.slice A1 l0.length c1, .int .i64 x.f, .int .i64 x.d, .int .i64 x.o, .int .i64 x.b, .int .i64 x.s, .int .i64 x.t] 35 (0, 0))) ∧
      Aside0 (W.heap[w.heap.size]? = some (.cells #[.slice none 0 0, .int .i64 0, .int .i64 0, .int .i64 0, .int .i64 0, .int .i64 0, .int .i64 0] 35 (0, 0))) ∧ Aside0 (Stays (w.heap.size + 1) w1 W) ∧ Aside0 (Below w.heap.size w W))
    case atStart =>
      refine ⟨0, Bk.zero, rfl, ⟨Nat.zero_le _, by omega⟩, ⟨rfl⟩, ⟨by simp [Bk.zero]⟩, ⟨?_⟩, ⟨?_⟩, ⟨?_⟩, ⟨?_⟩⟩
      · exact blk_new w1 _
      · exact blk_below HZ.out (below_alloc (Below.refl _ _) _)
      · repeat (with_reducible first | exact Stays.refl _ _ | apply Stays.drewN | apply Stays.drew | apply Stays.alloc | (refine Stays.setLo ?_ ?_ _; rotate_left; omega) | (refine Stays.setHi ?_ ?_ _; rotate_left; omega))
      · repeat (with_reducible first | exact HB1.out | apply pw_below_drewN | apply below_drew1 | apply below_alloc | (refine below_set ?_ ?_; rotate_left; omega))
    case round =>
      obtain ⟨i, x, rfl, HI, HA, HX, HBk, HZ, HS, HB⟩ := hrel
      obtain ⟨hi1, hi2⟩ := HI.out
      obtain ⟨⟨_, _⟩, ⟨_, _⟩, ⟨_, _⟩⟩ := HX.out
      have hL := HL.out
      by_cases hlt : i < l0.length
      · have hlt' : (i : Int) < (l0.length : Int) := by omega
        obtain ⟨ad, hA, he0, he1⟩ := at_T54 (Kd.C_below HR.out HB.out) (i : Int) (by omega) hlt'
        rw [Int.toNat_natCast] at he0 he1
        have HD := Aside0.mk (Bk.run_drop x l0 i hlt)
        generalize rd_T54 l0 (i : Int) = ev at he0 he1 HD
        obtain ⟨e0, e1⟩ := ev
        simp only at he0 he1
        subst hA
        generalize hr : evOn x.f x.d x.o e0 e1 = r
        obtain ⟨x1, x2, x3, x4, x5, x6, x7⟩ := r
        obtain ⟨⟨_, _⟩, ⟨_, _⟩, ⟨_, _⟩⟩ := evOn_bounds hr
        have HE := Aside0.mk (show impl_EventOn.f x.f x.d x.o e0 e1 = some (x1, x2, x3, x4, x5, x6, x7) from congrArg some hr)
        have HD2 := Aside0.mk (show x.run (l0.drop i) = if x7 = true then (Bk.mk x1 x2 x3 (x.b + x4) (x.s + x5) (x.t + x6)).run (l0.drop (i + 1)) else none by rw [HD.out]; unfold Bk.step; simp only [hr]; cases x7 <;> rfl)
        clear hr HD
        have hz := blk_lt HBk.out
        have hz0 := blk_lt HZ.out
        have hw1 : ¬ w.heap.size = w1.heap.size := by omega
        have hw2 : ¬ w1.heap.size = w.heap.size := by omega
        have := blk_cell HBk.out 0; have := blk_frozen HBk.out 0; have := blk_cell HZ.out 0; have := blk_frozen HZ.out 0
        have := blk_cell HBk.out 1; have := blk_frozen HBk.out 1; have := blk_cell HZ.out 1; have := blk_frozen HZ.out 1
        have := blk_cell HBk.out 2; have := blk_frozen HBk.out 2; have := blk_cell HZ.out 2; have := blk_frozen HZ.out 2
        have := blk_cell HBk.out 3; have := blk_frozen HBk.out 3; have := blk_cell HZ.out 3; have := blk_frozen HZ.out 3
        have := blk_cell HBk.out 4; have := blk_frozen HBk.out 4; have := blk_cell HZ.out 4; have := blk_frozen HZ.out 4
        have := blk_cell HBk.out 5; have := blk_frozen HBk.out 5; have := blk_cell HZ.out 5; have := blk_frozen HZ.out 5
        have := blk_cell HBk.out 6; have := blk_frozen HBk.out 6; have := blk_cell HZ.out 6; have := blk_frozen HZ.out 6
        cases x7 with
        | false =>
          have hn : Bk.zero.run l0 = none := by rw [← HA.out, HD2.out]; rfl
          have h2 := H.out
          rw [hn] at h2
          simp only [Prod.mk.injEq] at h2
          obtain ⟨rfl, rfl, rfl, rfl, rfl, rfl, rfl, rfl⟩ := h2
          clear hn
          go_wp2_with (first | (go_at_call 20; (with_reducible refine (impl_EventOn.calls _ _ _ _ _ _ _ _ _ _ _ _ _ HE.out).mono ?_); rintro e w2 ⟨rfl, hb2⟩; obtain ⟨hc2, hf2⟩ := bcell hb2; have : wr.heap.size < w2.heap.size := (by have := hb2.size; simp at this; omega); have : w1.heap.size < w2.heap.size := (by omega); have : w.heap.size < w2.heap.size := (by omega); have : ¬ wr.heap.size = w1.heap.size := (by omega); have : ¬ wr.heap.size = w.heap.size := (by omega); have : ¬ w1.heap.size = wr.heap.size := (by omega); have : ¬ w.heap.size = wr.heap.size := (by omega); have HBk2 := Aside0.mk (blk_below (blk_below HBk.out (below_alloc (Below.refl _ _) _)) hb2); have HZ2 := Aside0.mk (blk_below (blk_below HZ.out (below_alloc (Below.refl _ _) _)) hb2); have := blk_cell HBk2.out 0; have := blk_cell HBk2.out 1; have := blk_cell HBk2.out 2; have := blk_cell HBk2.out 3; have := blk_cell HBk2.out 4; have := blk_cell HBk2.out 5; have := blk_cell HBk2.out 6; have := blk_cell HZ2.out 0; have := blk_cell HZ2.out 1; have := blk_cell HZ2.out 2; have := blk_cell HZ2.out 3; have := blk_cell HZ2.out 4; have := blk_cell HZ2.out 5; have := blk_cell HZ2.out 6))
          refine bodyPost_ret (v := .tuple #[.agg #[.slice none 0 0, .int .i64 0, .int .i64 0, .int .i64 0, .int .i64 0, .int .i64 0, .int .i64 0], .bool false]) (by simp [results, Try.results54, go_sem, *]) rfl ⟨_, rfl, Kd.R_nil _ _ _ _ _, ?_⟩
          repeat (with_reducible first | exact HB.out | apply pw_below_drewN | apply below_drew1 | apply below_alloc | (refine below_set ?_ ?_; rotate_left; omega) | refine below_step ?_ hb2)
        | true =>
          go_wp2_with (first | (go_at_call 20; (with_reducible refine (impl_EventOn.calls _ _ _ _ _ _ _ _ _ _ _ _ _ HE.out).mono ?_); rintro e w2 ⟨rfl, hb2⟩; obtain ⟨hc2, hf2⟩ := bcell hb2; have : wr.heap.size < w2.heap.size := (by have := hb2.size; simp at this; omega); have : w1.heap.size < w2.heap.size := (by omega); have : w.heap.size < w2.heap.size := (by omega); have : ¬ wr.heap.size = w1.heap.size := (by omega); have : ¬ wr.heap.size = w.heap.size := (by omega); have : ¬ w1.heap.size = wr.heap.size := (by omega); have : ¬ w.heap.size = wr.heap.size := (by omega); have HBk2 := Aside0.mk (blk_below (blk_below HBk.out (below_alloc (Below.refl _ _) _)) hb2); have HZ2 := Aside0.mk (blk_below (blk_below HZ.out (below_alloc (Below.refl _ _) _)) hb2); have := blk_cell HBk2.out 0; have := blk_cell HBk2.out 1; have := blk_cell HBk2.out 2; have := blk_cell HBk2.out 3; have := blk_cell HBk2.out 4; have := blk_cell HBk2.out 5; have := blk_cell HBk2.out 6; have := blk_cell HZ2.out 0; have := blk_cell HZ2.out 1; have := blk_cell HZ2.out 2; have := blk_cell HZ2.out 3; have := blk_cell HZ2.out 4; have := blk_cell HZ2.out 5; have := blk_cell HZ2.out 6))
          go_roundg (l0.length - (i + 1))
          case measure => omega
          case rel =>
            refine ⟨i + 1, ⟨x1, x2, x3, x.b + x4, x.s + x5, x.t + x6⟩, by go_num, ⟨by omega, Nat.le_refl _⟩, ⟨by rw [← HA.out, HD2.out]; rfl⟩, ⟨by simp only; omega⟩, ⟨?_⟩, ⟨?_⟩, ⟨?_⟩, ⟨?_⟩⟩
            · exact blk_below (blk_all7_1 HBk2.out) (below_alloc (Below.refl _ _) _)
            · exact blk_below (blk_far (blk_far (blk_far (blk_far (blk_far (blk_far HZ2.out hw1 _) hw1 _) hw1 _) hw1 _) hw1 _) hw1 _) (below_alloc (Below.refl _ _) _)
            · repeat (with_reducible first | exact HS.out | apply Stays.drewN | apply Stays.drew | apply Stays.alloc | (refine Stays.setLo ?_ ?_ _; rotate_left; omega) | (refine Stays.setHi ?_ ?_ _; rotate_left; omega) | refine Stays.step ?_ hb2)
            · repeat (with_reducible first | exact HB.out | apply pw_below_drewN | apply below_drew1 | apply below_alloc | (refine below_set ?_ ?_; rotate_left; omega) | refine below_step ?_ hb2)
      · obtain rfl : i = l0.length := by omega
        have hlt' : ¬ ((l0.length : Int) < (l0.length : Int)) := by omega
        have hn : Bk.zero.run l0 = some x := by rw [← HA.out, List.drop_length]; rfl
        have h2 := H.out
        rw [hn] at h2
        simp only [Prod.mk.injEq] at h2
        obtain ⟨rfl, rfl, rfl, rfl, rfl, rfl, rfl, rfl⟩ := h2
        clear hn
        have hz := blk_lt HBk.out
        have hz0 := blk_lt HZ.out
        have hw1 : ¬ w.heap.size = w1.heap.size := by omega
        have hw2 : ¬ w1.heap.size = w.heap.size := by omega
        have := blk_cell HBk.out 0; have := blk_frozen HBk.out 0; have := blk_cell HZ.out 0; have := blk_frozen HZ.out 0
        have := blk_cell HBk.out 1; have := blk_frozen HBk.out 1; have := blk_cell HZ.out 1; have := blk_frozen HZ.out 1
        have := blk_cell HBk.out 2; have := blk_frozen HBk.out 2; have := blk_cell HZ.out 2; have := blk_frozen HZ.out 2
        have := blk_cell HBk.out 3; have := blk_frozen HBk.out 3; have := blk_cell HZ.out 3; have := blk_frozen HZ.out 3
        have := blk_cell HBk.out 4; have := blk_frozen HBk.out 4; have := blk_cell HZ.out 4; have := blk_frozen HZ.out 4
        have := blk_cell HBk.out 5; have := blk_frozen HBk.out 5; have := blk_cell HZ.out 5; have := blk_frozen HZ.out 5
        have := blk_cell HBk.out 6; have := blk_frozen HBk.out 6; have := blk_cell HZ.out 6; have := blk_frozen HZ.out 6
        go_wp2
        refine bodyPost_ret (v := .tuple #[.agg #[.slice A1 l0.length c1, .int .i64 x.f, .int .i64 x.d, .int .i64 x.o, .int .i64 x.b, .int .i64 x.s, .int .i64 x.t], .bool (decide ((l0.length : Int) ≤ 40))]) (by simp [results, Try.results54, go_sem, *]) rfl ⟨_, rfl, R_stays HO.out ?_ (by omega), ?_⟩
        · repeat (with_reducible first | exact HS.out | apply Stays.drewN | apply Stays.drew | apply Stays.alloc | (refine Stays.setLo ?_ ?_ _; rotate_left; omega) | (refine Stays.setHi ?_ ?_ _; rotate_left; omega) | refine Stays.step ?_ hb2)
        · repeat (with_reducible first | exact HB.out | apply pw_below_drewN | apply below_drew1 | apply below_alloc | (refine below_set ?_ ?_; rotate_left; omega) | refine below_step ?_ hb2)
  · rw [if_neg hl] at h
    exact absurd h (by simp)
end Go.Proofs.Ytdlmincaplbpgaa.Q
namespace Go.Proofs.Ytdlmincaplbpgaa.Q
open Go.RowKit Go.Proofs.YtdlmincaplbpgaaW.PrintWords Go.Proofs.YtdlmincaplbpgaaW.PrintLast Go.Proofs.YtdlmincaplbpgaaW.PrintMore
attribute [local go_sem] max2_int min2_int max_two min_two max_three min_three max_four min_four
set_option linter.unusedVariables false
set_option linter.unusedSimpArgs false
attribute [local go_sem high] eqA33
theorem impl_counted.ok (A0 : Option Addr) (c0 : Nat) (l0 : List S54) (x : Bk) (w : World) (hr0 : Kd.C k54 w A0 l0.length l0) (hc0 : l0.length ≤ c0) (hl : l0.length < 8796093022208) (h : Bk.tally l0 = some x) :
    Calls Try.prog 54 #[.slice A0 l0.length c0] w fun e w' => ∃ v0_ : Value, e = .returned (.tuple #[.agg #[v0_, .int .i64 x.f, .int .i64 x.d, .int .i64 x.o, .int .i64 x.b, .int .i64 x.s, .int .i64 x.t], .bool true]) ∧ Kd.R k54 54 w' w.heap.size (fun _ => True) v0_ l0 ∧ Below w.heap.size w w' := by
  refine impl_counted.calls A0 c0 l0 _ _ _ _ _ _ _ _ w hr0 hc0 ?_
  unfold Bk.tally at h
  unfold impl_counted.f
  by_cases h4 : l0.length ≤ 40
  · rw [if_pos h4] at h
    rw [if_pos hl, h]
    simp only [decide_eq_true (show (l0.length : Int) ≤ 40 by omega)]
  · rw [if_neg h4] at h
    exact absurd h (by simp)
theorem impl_counted.no (A0 : Option Addr) (c0 : Nat) (l0 : List S54) (w : World) (hr0 : Kd.C k54 w A0 l0.length l0) (hc0 : l0.length ≤ c0) (hl : l0.length < 8796093022208) (h : Bk.tally l0 = none) :
    Calls Try.prog 54 #[.slice A0 l0.length c0] w fun e w' => ∃ (v0_ : Value) (l : List S54) (y : Bk), e = .returned (.tuple #[.agg #[v0_, .int .i64 y.f, .int .i64 y.d, .int .i64 y.o, .int .i64 y.b, .int .i64 y.s, .int .i64 y.t], .bool false]) ∧ Kd.R k54 54 w' w.heap.size (fun _ => True) v0_ l ∧ Below w.heap.size w w' := by
  unfold Bk.tally at h
  cases hx : Bk.zero.run l0 with
  | none =>
    exact (impl_counted.calls A0 c0 l0 [] 0 0 0 0 0 0 false w hr0 hc0 (by unfold impl_counted.f; rw [if_pos hl, hx])).mono fun e w' ⟨v, h1, h2, h3⟩ => ⟨v, [], Bk.zero, h1, h2, h3⟩
  | some x =>
    have h4 : ¬ l0.length ≤ 40 := by
      intro h4
      rw [if_pos h4, hx] at h
      cases h
    exact (impl_counted.calls A0 c0 l0 l0 x.f x.d x.o x.b x.s x.t false w hr0 hc0 (by unfold impl_counted.f; rw [if_pos hl, hx]; simp only [decide_eq_false (show ¬ (l0.length : Int) ≤ 40 by omega)])).mono fun e w' ⟨v, h1, h2, h3⟩ => ⟨v, l0, x, h1, h2, h3⟩
def impl_BookOk.f (l0_0 : List S54) (a0_1 a0_2 a0_3 a0_4 a0_5 a0_6 : Int) : Option Bool := if l0_0.length < 8796093022208 then some (bkOk l0_0 a0_1 a0_2 a0_3 a0_4 a0_5 a0_6) else none
set_option maxHeartbeats 2000000 in
theorem impl_BookOk.calls (A0_0 : Option Addr) (c0_0 : Nat) (l0_0 : List S54) (a0_1 : Int) (a0_2 : Int) (a0_3 : Int) (a0_4 : Int) (a0_5 : Int) (a0_6 : Int) (r : Bool) (w : World) (hr0_0 : Kd.C k54 w A0_0 l0_0.length l0_0) (hc0_0 : l0_0.length ≤ c0_0) (h : impl_BookOk.f l0_0 a0_1 a0_2 a0_3 a0_4 a0_5 a0_6 = some r) :
    Calls Try.prog 15 #[.agg #[.slice A0_0 l0_0.length c0_0, .int .i64 a0_1, .int .i64 a0_2, .int .i64 a0_3, .int .i64 a0_4, .int .i64 a0_5, .int .i64 a0_6]] w fun e w' => e = .returned (.bool r) ∧ Below w.heap.size w w' := by
  unfold impl_BookOk.f at h
  by_cases hl : l0_0.length < 8796093022208
  · rw [if_pos hl] at h
    obtain rfl := Option.some.inj h
    have HR := Aside0.mk hr0_0
    have HL := Aside0.mk hl
    clear hr0_0 hl h
    have da : ∀ (w : World) (n : Nat) (o : Obj), (w.drewN n).alloc o = (w.alloc o).drewN n := fun _ _ _ => rfl
    have ds : ∀ (w : World) (n : Nat) (a : Addr) (v : Value), (w.drewN n).setCell a v = (w.setCell a v).drewN n := fun _ _ _ _ => rfl
    unfold bkOk
    cases hx : Bk.tally l0_0 with
    | none =>
      have HX := Aside0.mk hx
      clear hx
      go_enter Try.func15, Try.ntmps15
      go_wp2_with (first | (go_at_call 54; (with_reducible refine (impl_counted.no _ _ l0_0 _ (Kd.C_below HR.out (below_alloc (Below.refl _ _) _)) (by assumption) HL.out HX.out).mono ?_); rintro e w1 ⟨v1, l1, y, rfl, ho1, hb1⟩; obtain ⟨hc1, hf1⟩ := bcell hb1; have : w.heap.size < w1.heap.size := (by have := hb1.size; simp at this; omega); have : ¬ w1.heap.size = w.heap.size := (by omega); have : ¬ w.heap.size = w1.heap.size := (by omega); obtain ⟨A1, c1, rfl⟩ := Kd.R_slice ho1))
      go_ret
      exact ⟨rfl, by repeat (with_reducible first | exact Below.refl _ _ | apply pw_below_drewN | apply below_drew1 | apply below_alloc | (refine below_set ?_ ?_; rotate_left; omega) | refine below_step ?_ hb1)⟩
    | some x =>
      have HX := Aside0.mk hx
      clear hx
      simp only
      generalize e1 : (x.f == a0_1 && (x.d == a0_2 && (x.o == a0_3))) = b1
      generalize e2 : (x.b == a0_4) = b2
      generalize e3 : (x.s == a0_5) = b3
      generalize e4 : (x.t == a0_6) = b4
      cases b1; rotate_left; cases b2; rotate_left; cases b3; rotate_left
      all_goals
        go_enter Try.func15, Try.ntmps15
        go_wp2_with (first | (go_at_call 54; (with_reducible refine (impl_counted.ok _ _ l0_0 x _ (Kd.C_below HR.out (below_alloc (Below.refl _ _) _)) (by assumption) HL.out HX.out).mono ?_); rintro e w1 ⟨v1, rfl, ho1, hb1⟩; obtain ⟨hc1, hf1⟩ := bcell hb1; have : w.heap.size < w1.heap.size := (by have := hb1.size; simp at this; omega); have : ¬ w1.heap.size = w.heap.size := (by omega); have : ¬ w.heap.size = w1.heap.size := (by omega); obtain ⟨A1, c1, rfl⟩ := Kd.R_slice ho1))
        go_ret
        exact ⟨by simp, by repeat (with_reducible first | exact Below.refl _ _ | apply pw_below_drewN | apply below_drew1 | apply below_alloc | (refine below_set ?_ ?_; rotate_left; omega) | refine below_step ?_ hb1)⟩
  · rw [if_neg hl] at h
    exact absurd h (by simp)
end Go.Proofs.Ytdlmincaplbpgaa.Q
namespace Go.Proofs.Ytdlmincaplbpgaa.Q
open Go.RowKit Go.Proofs.YtdlmincaplbpgaaW.PrintWords Go.Proofs.YtdlmincaplbpgaaW.PrintLast Go.Proofs.YtdlmincaplbpgaaW.PrintMore
attribute [local go_sem] max2_int min2_int max_two min_two max_three min_three max_four min_four
set_option linter.unusedVariables false
set_option linter.unusedSimpArgs false
def impl_DaysIn.l0 : Nat → Int → List (S54) → Int → Int → Option (Int)
  | 0, _, _, _, _ => none
  | k + 1, x3, x10, x11, x12 => if x12 < x11 then (if 0 ≤ x12 then (if x12 < (x10.length : Int) then (if ((rd_T54 x10 x12).f0) = 4 then (impl_DaysIn.l0 k (wrap64 (x3 + 1)) x10 x11 (wrap64 (x12 + 1))) else (impl_DaysIn.l0 k x3 x10 x11 (wrap64 (x12 + 1)))) else (none)) else (none)) else (some x3)
def impl_DaysIn.f (k : Nat) (l0_0 : List (S54)) (a0_1 : Int) (a0_2 : Int) (a0_3 : Int) (a0_4 : Int) (a0_5 : Int) (a0_6 : Int) : Option (Int) := (impl_BookOk.f l0_0 a0_1 a0_2 a0_3 a0_4 a0_5 a0_6).bind fun t102 => (if t102 = true then (impl_DaysIn.l0 k 0 l0_0 (l0_0.length : Int) 0) else (some (-1)))
theorem impl_DaysIn.mono_l : ∀ k, (∀ y0 y1 y2 y3, LeO (impl_DaysIn.l0 k y0 y1 y2 y3) (impl_DaysIn.l0 (k + 1) y0 y1 y2 y3))
  | 0 => fun _ _ _ _ r h => by simp [impl_DaysIn.l0] at h
  | k + 1 => by
    have ih0 := impl_DaysIn.mono_l k
    · intro y0 y1 y2 y3
      unfold impl_DaysIn.l0
      repeat' first
      | (with_reducible exact ih0 _ _ _ _)
      | (with_reducible exact LeO.refl _)
      | (with_reducible exact LeO.none _)
      | (with_reducible refine LeO.ite ?_ ?_)
      | (with_reducible refine LeO.bind ?_ (fun _ => ?_))
      | exact ih0 _ _ _ _
      | exact LeO.none _
      | refine LeO.ite ?_ ?_
      | refine LeO.bind ?_ (fun _ => ?_)
theorem impl_DaysIn.mono : ∀ a0 a1 a2 a3 a4 a5 a6 k, LeO (impl_DaysIn.f k a0 a1 a2 a3 a4 a5 a6) (impl_DaysIn.f (k + 1) a0 a1 a2 a3 a4 a5 a6) := by
  intro a0 a1 a2 a3 a4 a5 a6 k
  have ih0 := impl_DaysIn.mono_l k
  unfold impl_DaysIn.f
  repeat' first
      | (with_reducible exact ih0 _ _ _ _)
      | (with_reducible exact LeO.refl _)
      | (with_reducible exact LeO.none _)
      | (with_reducible refine LeO.ite ?_ ?_)
      | (with_reducible refine LeO.bind ?_ (fun _ => ?_))
      | exact ih0 _ _ _ _
      | exact LeO.none _
      | refine LeO.ite ?_ ?_
      | refine LeO.bind ?_ (fun _ => ?_)
set_option maxHeartbeats 8000000 in
set_option maxRecDepth 100000 in
theorem impl_DaysIn.calls (k : Nat) (A0_0 : Option Addr) (c0_0 : Nat) (l0_0 : List (S54)) (a0_1 : Int) (a0_2 : Int) (a0_3 : Int) (a0_4 : Int) (a0_5 : Int) (a0_6 : Int) (r : Int) (w : World) (hr0_0 : Kd.C k54 w A0_0 l0_0.length l0_0) (hc0_0 : l0_0.length ≤ c0_0) (h : impl_DaysIn.f k l0_0 a0_1 a0_2 a0_3 a0_4 a0_5 a0_6 = some r) :
    Calls Try.prog 22 #[.agg #[.slice A0_0 l0_0.length c0_0, .int .i64 a0_1, .int .i64 a0_2, .int .i64 a0_3, .int .i64 a0_4, .int .i64 a0_5, .int .i64 a0_6]] w fun e w' => e = .returned (.int .i64 r) ∧ Below w.heap.size w w' := by
  have hu35 := Try.underlying35
  have hu54 := Try.underlying54
  have HR0_0 := Aside0.mk hr0_0
  have HC0_0 := Aside0.mk hc0_0
  clear hr0_0 hc0_0
  have HB := Aside0.mk (Below.refl w.heap.size w)
  have H : ((impl_BookOk.f l0_0 a0_1 a0_2 a0_3 a0_4 a0_5 a0_6).bind fun t102 => (if t102 = true then (impl_DaysIn.l0 k 0 l0_0 (l0_0.length : Int) 0) else (some (-1)))) = some r := h
  clear h
  replace H := Option.bind_eq_some_iff.mp H
  obtain ⟨t102, A20, H⟩ := H
  replace H : (if t102 = true then (impl_DaysIn.l0 k 0 l0_0 (l0_0.length : Int) 0) else (some (-1))) = some r := H
  have A2 := Aside0.mk A20
  clear A20
  by_cases c3 : t102 = true
  · subst c3
    have H1 : (impl_DaysIn.l0 k 0 l0_0 (l0_0.length : Int) 0) = some r := by rw [if_pos rfl] at H; exact H
    clear H
    have H := H1
    clear H1
    have H' := Aside0.mk H
    clear H
    go_enter Try.func22, Try.ntmps22
    go_wp2_with (first | ((with_reducible refine gate_dst (N := 1) rfl ?_); refine box_event ?hg (N := 1) ?hd (cs := #[.slice A0_0 l0_0.length c0_0, .int .i64 a0_1, .int .i64 a0_2, .int .i64 a0_3, .int .i64 a0_4, .int .i64 a0_5, .int .i64 a0_6]) (t := 35) ?hr ?_; (case hd => rfl); (case hg => rfl); (case hr => first | (go_simp; done) | (go_simp; rfl)); intro gb101 hg w4 hbox hb; have n0_ := Aside0.mk (below_step (by repeat (first | (with_reducible first | exact HB.out | apply below_alloc | apply pw_below_drewN | apply below_drew1) | exact HB.out)) hb); have n1_ := Aside0.mk (hbox); have n2_ := Aside0.mk ((by rw [hg]; exact (below_size (by repeat (first | (with_reducible first | exact HB.out | apply below_alloc | apply pw_below_drewN | apply below_drew1) | exact HB.out))) : w.heap.size ≤ gb101)); have n3_ := Aside0.mk ((by rw [hg]; exact (below_size (by repeat (first | (with_reducible first | exact HB.out | apply below_alloc | apply pw_below_drewN | apply below_drew1) | exact HB.out))) : w.heap.size ≤ gb101)); clear HB; have HB := n0_; have BK101 := n1_; have GW101 := n2_; have GE101 := n3_; clear n0_ n1_ n2_ n3_; clear hb hbox hg; have hcz5_0 : w4.cell? ⟨gb101, 0, none⟩ = some (.slice A0_0 l0_0.length c0_0) := (blk_cell BK101.out 0).trans rfl; have hcz5_1 : w4.cell? ⟨gb101, 1, none⟩ = some (.int .i64 a0_1) := (blk_cell BK101.out 1).trans rfl; have hcz5_2 : w4.cell? ⟨gb101, 2, none⟩ = some (.int .i64 a0_2) := (blk_cell BK101.out 2).trans rfl; have hcz5_3 : w4.cell? ⟨gb101, 3, none⟩ = some (.int .i64 a0_3) := (blk_cell BK101.out 3).trans rfl; have hcz5_4 : w4.cell? ⟨gb101, 4, none⟩ = some (.int .i64 a0_4) := (blk_cell BK101.out 4).trans rfl; have hcz5_5 : w4.cell? ⟨gb101, 5, none⟩ = some (.int .i64 a0_5) := (blk_cell BK101.out 5).trans rfl; have hcz5_6 : w4.cell? ⟨gb101, 6, none⟩ = some (.int .i64 a0_6) := (blk_cell BK101.out 6).trans rfl; have hfz5_0 := blk_frozen BK101.out 0; have hfz5_1 := blk_frozen BK101.out 1; have hfz5_2 := blk_frozen BK101.out 2; have hfz5_3 := blk_frozen BK101.out 3; have hfz5_4 := blk_frozen BK101.out 4; have hfz5_5 := blk_frozen BK101.out 5; have hfz5_6 := blk_frozen BK101.out 6) | ((with_reducible refine gate_callee (f := 15) rfl ?_); refine goesL_ (some 7) rfl rfl Try.func15 (by kernel_rfl) rfl #[.agg #[.slice A0_0 l0_0.length c0_0, .int .i64 a0_1, .int .i64 a0_2, .int .i64 a0_3, .int .i64 a0_4, .int .i64 a0_5, .int .i64 a0_6]] rfl (by (try simp only [List.map_toArray, List.map_cons, List.map_nil]); first | done | rfl | (simp only [List.length_drop, List.length_take]; rfl)) ?_; (with_reducible refine (impl_BookOk.calls _ _ l0_0 a0_1 a0_2 a0_3 a0_4 a0_5 a0_6 true _ ?side1 ?side2 A2.out).mono ?_); (case side1 => repeat (first | exact (Kd.C_below HR0_0.out HB.out) | (with_reducible refine Kd.C_alloc ?_ _) | (with_reducible refine Kd.C_drewN ?_ _) | (with_reducible refine Kd.C_drew ?_))); (case side2 => exact HC0_0.out); rintro e w6 ⟨rfl, hb⟩; refine ⟨_, rfl, ?_⟩; have n0_ := Aside0.mk (blk_below (g := gb101) (o := .cells #[.slice A0_0 l0_0.length c0_0, .int .i64 a0_1, .int .i64 a0_2, .int .i64 a0_3, .int .i64 a0_4, .int .i64 a0_5, .int .i64 a0_6] 35 (0, 0)) (by (with_reducible repeat (first | refine blk_drewN ?_ _ | refine blk_drew ?_ | refine blk_alloc ?_ _)); exact BK101.out) hb); have n1_ := Aside0.mk (below_step (by repeat (first | (with_reducible first | exact HB.out | apply below_alloc | apply pw_below_drewN | apply below_drew1 | refine below_set ?_ GE101.out) | exact HB.out)) hb); clear BK101; clear HB; have BK101 := n0_; have HB := n1_; clear n0_ n1_; (try clear hb); (try clear hb2); (try clear hk); (try clear hi); have hcz7_0 : w6.cell? ⟨gb101, 0, none⟩ = some (.slice A0_0 l0_0.length c0_0) := (blk_cell BK101.out 0).trans rfl; have hcz7_1 : w6.cell? ⟨gb101, 1, none⟩ = some (.int .i64 a0_1) := (blk_cell BK101.out 1).trans rfl; have hcz7_2 : w6.cell? ⟨gb101, 2, none⟩ = some (.int .i64 a0_2) := (blk_cell BK101.out 2).trans rfl; have hcz7_3 : w6.cell? ⟨gb101, 3, none⟩ = some (.int .i64 a0_3) := (blk_cell BK101.out 3).trans rfl; have hcz7_4 : w6.cell? ⟨gb101, 4, none⟩ = some (.int .i64 a0_4) := (blk_cell BK101.out 4).trans rfl; have hcz7_5 : w6.cell? ⟨gb101, 5, none⟩ = some (.int .i64 a0_5) := (blk_cell BK101.out 5).trans rfl; have hcz7_6 : w6.cell? ⟨gb101, 6, none⟩ = some (.int .i64 a0_6) := (blk_cell BK101.out 6).trans rfl; have hfz7_0 := blk_frozen BK101.out 0; have hfz7_1 := blk_frozen BK101.out 1; have hfz7_2 := blk_frozen BK101.out 2; have hfz7_3 := blk_frozen BK101.out 3; have hfz7_4 := blk_frozen BK101.out 4; have hfz7_5 := blk_frozen BK101.out 5; have hfz7_6 := blk_frozen BK101.out 6))
    go_loopg [3, 12] k (fun kq v3 v12 w' => ∃ (x3_1 : Int) (x12_1 : Int), v3 = .int .i64 x3_1 ∧ v12 = .int .i64 x12_1 ∧ Aside0 (impl_DaysIn.l0 kq x3_1 l0_0 (l0_0.length : Int) x12_1 = some r) ∧ Aside0 (kq ≤ k) ∧ Aside0 (w'.heap[gb101]? = some (.cells #[(.slice A0_0 l0_0.length c0_0), .int .i64 a0_1, .int .i64 a0_2, .int .i64 a0_3, .int .i64 a0_4, .int .i64 a0_5, .int .i64 a0_6] 35 (0, 0))) ∧ Aside0 (Below w.heap.size w w'))
    case atStart => exact ⟨(0), (0), (by first | rfl | (simp; done) | (simp [*]; done)), (by first | rfl | (simp; done) | (simp [*]; done)), H', ⟨Nat.le_refl _⟩, ⟨by (with_reducible repeat (first | refine blk_drewN ?_ _ | refine blk_drew ?_ | refine blk_alloc ?_ _)); exact BK101.out⟩, ⟨by repeat (first | (with_reducible first | exact HB.out | apply below_alloc | apply pw_below_drewN | apply below_drew1 | refine below_set ?_ GE101.out) | exact HB.out)⟩⟩
    case round =>
      clear H'
      try clear c1
      try clear c2
      try clear p2
      try clear c3
      try clear hcz5_0
      try clear hcz5_1
      try clear hcz5_2
      try clear hcz5_3
      try clear hcz5_4
      try clear hcz5_5
      try clear hcz5_6
      try clear hcz7_0
      try clear hcz7_1
      try clear hcz7_2
      try clear hcz7_3
      try clear hcz7_4
      try clear hcz7_5
      try clear hcz7_6
      try clear hfz5_0
      try clear hfz5_1
      try clear hfz5_2
      try clear hfz5_3
      try clear hfz5_4
      try clear hfz5_5
      try clear hfz5_6
      try clear hfz7_0
      try clear hfz7_1
      try clear hfz7_2
      try clear hfz7_3
      try clear hfz7_4
      try clear hfz7_5
      try clear hfz7_6
      obtain ⟨x3_1, x12_1, rfl, rfl, HA, HK1, BK101, HB⟩ := hrel
      cases gk with
      | zero => exact absurd HA.out (by simp [impl_DaysIn.l0])
      | succ k1 =>
        have H := HA.out
        clear HA
        simp only [impl_DaysIn.l0] at H
        by_cases c8 : x12_1 < (l0_0.length : Int)
        · rw [if_pos c8] at H
          have c8b0 : decide (x12_1 < (l0_0.length : Int)) = true := decide_eq_true c8
          clear c8
          by_cases c9 : 0 ≤ x12_1
          · rw [if_pos c9] at H
            have c9b0 : decide (0 ≤ x12_1) = true := decide_eq_true c9
            clear c9
            by_cases c10 : x12_1 < (l0_0.length : Int)
            · rw [if_pos c10] at H
              have c10b0 : decide (x12_1 < (l0_0.length : Int)) = true := decide_eq_true c10
              clear c10
              by_cases c11 : ((rd_T54 l0_0 x12_1).f0) = 4
              · rw [if_pos c11] at H
                have c11b0 : (((rd_T54 l0_0 x12_1).f0) == 4) = true := beq_iff_eq.mpr c11
                have c11b1 : (((rd_T54 l0_0 x12_1).f0) != 4) = false := bne_eq_false_iff_eq.mpr c11
                clear c11
                have H' := Aside0.mk H
                clear H
                have p103 : 0 ≤ (x12_1 : Int) := of_decide_eq_true (by first | (with_reducible assumption) | assumption)
                have q103 : x12_1 < (l0_0.length : Int) := of_decide_eq_true (by first | (with_reducible assumption) | assumption)
                obtain ⟨ad103, e103, hx103_0, hx103_1⟩ := at_T54 HR0_0.out x12_1 p103 q103
                cases e103
                replace hx103_0 := (HB.out.cell (World.block_lt_of_cell? w _ hx103_0)).trans hx103_0
                replace hx103_1 := (HB.out.cell (World.block_lt_of_cell? w _ hx103_1)).trans hx103_1
                replace p103 := eq_true p103
                replace q103 := eq_true q103
                go_wp2_with (first | ((with_reducible refine gate_dst (N := 5) rfl ?_); refine box_event ?hg (N := 5) ?hd (cs := #[.int .i64 0, .int .i64 0]) (t := 54) ?hr ?_; (case hd => rfl); (case hg => rfl); (case hr => first | (go_simp; done) | (go_simp; rfl)); intro gb104 hg w12 hbox hb; have n0_ := Aside0.mk (blk_below (g := gb101) (o := .cells #[.slice (some ad103) l0_0.length c0_0, .int .i64 a0_1, .int .i64 a0_2, .int .i64 a0_3, .int .i64 a0_4, .int .i64 a0_5, .int .i64 a0_6] 35 (0, 0)) (by (with_reducible repeat (first | refine blk_drewN ?_ _ | refine blk_drew ?_ | refine blk_alloc ?_ _)); exact BK101.out) hb); have n1_ := Aside0.mk (below_step (by repeat (first | (with_reducible first | exact HB.out | apply below_alloc | apply pw_below_drewN | apply below_drew1 | refine below_set ?_ GE101.out) | exact HB.out)) hb); have n2_ := Aside0.mk (hbox); have n3_ := Aside0.mk ((by rw [hg]; exact (below_size (by repeat (first | (with_reducible first | exact HB.out | apply below_alloc | apply pw_below_drewN | apply below_drew1 | refine below_set ?_ GE101.out) | exact HB.out))) : w.heap.size ≤ gb104)); have n4_ := Aside0.mk ((by rw [hg]; exact (below_size (by repeat (first | (with_reducible first | exact HB.out | apply below_alloc | apply pw_below_drewN | apply below_drew1 | refine below_set ?_ GE101.out) | exact HB.out))) : w.heap.size ≤ gb104)); have n5_ := Aside0.mk ((by rw [hg]; exact Nat.ne_of_lt (blk_lt (g := gb101) (o := .cells #[.slice (some ad103) l0_0.length c0_0, .int .i64 a0_1, .int .i64 a0_2, .int .i64 a0_3, .int .i64 a0_4, .int .i64 a0_5, .int .i64 a0_6] 35 (0, 0)) (by (with_reducible repeat (first | refine blk_drewN ?_ _ | refine blk_drew ?_ | refine blk_alloc ?_ _)); exact BK101.out)) : gb101 ≠ gb104)); have n6_ := Aside0.mk ((by rw [hg]; exact Nat.ne_of_gt (blk_lt (g := gb101) (o := .cells #[.slice (some ad103) l0_0.length c0_0, .int .i64 a0_1, .int .i64 a0_2, .int .i64 a0_3, .int .i64 a0_4, .int .i64 a0_5, .int .i64 a0_6] 35 (0, 0)) (by (with_reducible repeat (first | refine blk_drewN ?_ _ | refine blk_drew ?_ | refine blk_alloc ?_ _)); exact BK101.out)) : gb104 ≠ gb101)); clear BK101; clear HB; have BK101 := n0_; have HB := n1_; have BK104 := n2_; have GW104 := n3_; have GE104 := n4_; have NB101_104 := n5_; have NB104_101 := n6_; clear n0_ n1_ n2_ n3_ n4_ n5_ n6_; clear hb hbox hg; have hnb13 := NB104_101.out; have hnc13 := NB101_104.out; have hcz14_0 : w12.cell? ⟨gb104, 0, none⟩ = some (.int .i64 0) := (blk_cell BK104.out 0).trans rfl; have hcz14_1 : w12.cell? ⟨gb104, 1, none⟩ = some (.int .i64 0) := (blk_cell BK104.out 1).trans rfl; have hfz14_0 := blk_frozen BK104.out 0; have hfz14_1 := blk_frozen BK104.out 1))
                go_roundg k1
                case measure => have := HK1.out; omega
                case rel => exact ⟨(wrap64 (x3_1 + 1)), (wrap64 (x12_1 + 1)), (by first | rfl | (simp; done) | (simp [*]; done)), (by first | rfl | (simp; done) | (simp [*]; done)), H', ⟨by have := HK1.out; omega⟩, ⟨by (with_reducible repeat (first | refine blk_drewN ?_ _ | refine blk_drew ?_ | refine blk_alloc ?_ _)); refine blk_far ?_ NB101_104.out _; (with_reducible repeat (first | refine blk_drewN ?_ _ | refine blk_drew ?_ | refine blk_alloc ?_ _)); refine blk_far ?_ NB101_104.out _; (with_reducible repeat (first | refine blk_drewN ?_ _ | refine blk_drew ?_ | refine blk_alloc ?_ _)); exact BK101.out⟩, ⟨by repeat (first | (with_reducible first | exact HB.out | apply below_alloc | apply pw_below_drewN | apply below_drew1 | refine below_set ?_ GE101.out | refine below_set ?_ GE104.out) | exact HB.out)⟩⟩
              · rw [if_neg c11] at H
                have c11b0 : (((rd_T54 l0_0 x12_1).f0) == 4) = false := beq_eq_false_iff_ne.mpr c11
                have c11b1 : (((rd_T54 l0_0 x12_1).f0) != 4) = true := bne_iff_ne.mpr c11
                have H' := Aside0.mk H
                clear H
                have p103 : 0 ≤ (x12_1 : Int) := of_decide_eq_true (by first | (with_reducible assumption) | assumption)
                have q103 : x12_1 < (l0_0.length : Int) := of_decide_eq_true (by first | (with_reducible assumption) | assumption)
                obtain ⟨ad103, e103, hx103_0, hx103_1⟩ := at_T54 HR0_0.out x12_1 p103 q103
                cases e103
                replace hx103_0 := (HB.out.cell (World.block_lt_of_cell? w _ hx103_0)).trans hx103_0
                replace hx103_1 := (HB.out.cell (World.block_lt_of_cell? w _ hx103_1)).trans hx103_1
                replace p103 := eq_true p103
                replace q103 := eq_true q103
                go_wp2_with (first | ((with_reducible refine gate_dst (N := 5) rfl ?_); refine box_event ?hg (N := 5) ?hd (cs := #[.int .i64 0, .int .i64 0]) (t := 54) ?hr ?_; (case hd => rfl); (case hg => rfl); (case hr => first | (go_simp; done) | (go_simp; rfl)); intro gb104 hg w15 hbox hb; have n0_ := Aside0.mk (blk_below (g := gb101) (o := .cells #[.slice (some ad103) l0_0.length c0_0, .int .i64 a0_1, .int .i64 a0_2, .int .i64 a0_3, .int .i64 a0_4, .int .i64 a0_5, .int .i64 a0_6] 35 (0, 0)) (by (with_reducible repeat (first | refine blk_drewN ?_ _ | refine blk_drew ?_ | refine blk_alloc ?_ _)); exact BK101.out) hb); have n1_ := Aside0.mk (below_step (by repeat (first | (with_reducible first | exact HB.out | apply below_alloc | apply pw_below_drewN | apply below_drew1 | refine below_set ?_ GE101.out) | exact HB.out)) hb); have n2_ := Aside0.mk (hbox); have n3_ := Aside0.mk ((by rw [hg]; exact (below_size (by repeat (first | (with_reducible first | exact HB.out | apply below_alloc | apply pw_below_drewN | apply below_drew1 | refine below_set ?_ GE101.out) | exact HB.out))) : w.heap.size ≤ gb104)); have n4_ := Aside0.mk ((by rw [hg]; exact (below_size (by repeat (first | (with_reducible first | exact HB.out | apply below_alloc | apply pw_below_drewN | apply below_drew1 | refine below_set ?_ GE101.out) | exact HB.out))) : w.heap.size ≤ gb104)); have n5_ := Aside0.mk ((by rw [hg]; exact Nat.ne_of_lt (blk_lt (g := gb101) (o := .cells #[.slice (some ad103) l0_0.length c0_0, .int .i64 a0_1, .int .i64 a0_2, .int .i64 a0_3, .int .i64 a0_4, .int .i64 a0_5, .int .i64 a0_6] 35 (0, 0)) (by (with_reducible repeat (first | refine blk_drewN ?_ _ | refine blk_drew ?_ | refine blk_alloc ?_ _)); exact BK101.out)) : gb101 ≠ gb104)); have n6_ := Aside0.mk ((by rw [hg]; exact Nat.ne_of_gt (blk_lt (g := gb101) (o := .cells #[.slice (some ad103) l0_0.length c0_0, .int .i64 a0_1, .int .i64 a0_2, .int .i64 a0_3, .int .i64 a0_4, .int .i64 a0_5, .int .i64 a0_6] 35 (0, 0)) (by (with_reducible repeat (first | refine blk_drewN ?_ _ | refine blk_drew ?_ | refine blk_alloc ?_ _)); exact BK101.out)) : gb104 ≠ gb101)); clear BK101; clear HB; have BK101 := n0_; have HB := n1_; have BK104 := n2_; have GW104 := n3_; have GE104 := n4_; have NB101_104 := n5_; have NB104_101 := n6_; clear n0_ n1_ n2_ n3_ n4_ n5_ n6_; clear hb hbox hg; have hnb16 := NB104_101.out; have hnc16 := NB101_104.out; have hcz17_0 : w15.cell? ⟨gb104, 0, none⟩ = some (.int .i64 0) := (blk_cell BK104.out 0).trans rfl; have hcz17_1 : w15.cell? ⟨gb104, 1, none⟩ = some (.int .i64 0) := (blk_cell BK104.out 1).trans rfl; have hfz17_0 := blk_frozen BK104.out 0; have hfz17_1 := blk_frozen BK104.out 1))
                go_roundg k1
                case measure => have := HK1.out; omega
                case rel => exact ⟨(x3_1), (wrap64 (x12_1 + 1)), (by first | rfl | (simp; done) | (simp [*]; done)), (by first | rfl | (simp; done) | (simp [*]; done)), H', ⟨by have := HK1.out; omega⟩, ⟨by (with_reducible repeat (first | refine blk_drewN ?_ _ | refine blk_drew ?_ | refine blk_alloc ?_ _)); refine blk_far ?_ NB101_104.out _; (with_reducible repeat (first | refine blk_drewN ?_ _ | refine blk_drew ?_ | refine blk_alloc ?_ _)); refine blk_far ?_ NB101_104.out _; (with_reducible repeat (first | refine blk_drewN ?_ _ | refine blk_drew ?_ | refine blk_alloc ?_ _)); exact BK101.out⟩, ⟨by repeat (first | (with_reducible first | exact HB.out | apply below_alloc | apply pw_below_drewN | apply below_drew1 | refine below_set ?_ GE101.out | refine below_set ?_ GE104.out) | exact HB.out)⟩⟩
            · rw [if_neg c10] at H
              exact absurd H (by simp)
          · rw [if_neg c9] at H
            exact absurd H (by simp)
        · rw [if_neg c8] at H
          have c8b0 : decide (x12_1 < (l0_0.length : Int)) = false := decide_eq_false c8
          clear c8
          obtain rfl := Option.some.inj H
          go_wp2
          go_ret
          exact ⟨by first | rfl | (simp [errW_none, errW_some] <;> rfl) | (simp [*, errW_none, errW_some] <;> rfl), by repeat (first | (with_reducible first | exact HB.out | apply below_alloc | apply pw_below_drewN | apply below_drew1 | refine below_set ?_ GE101.out) | exact HB.out)⟩
  · replace c3 := Bool.eq_false_iff.mpr c3
    subst c3
    have H1 : (some (-1)) = some r := by rw [if_neg (show ¬ (false = true) by decide)] at H; exact H
    clear H
    have H := H1
    clear H1
    obtain rfl := Option.some.inj H
    go_enter Try.func22, Try.ntmps22
    go_wp2_with (first | ((with_reducible refine gate_dst (N := 1) rfl ?_); refine box_event ?hg (N := 1) ?hd (cs := #[.slice A0_0 l0_0.length c0_0, .int .i64 a0_1, .int .i64 a0_2, .int .i64 a0_3, .int .i64 a0_4, .int .i64 a0_5, .int .i64 a0_6]) (t := 35) ?hr ?_; (case hd => rfl); (case hg => rfl); (case hr => first | (go_simp; done) | (go_simp; rfl)); intro gb101 hg w18 hbox hb; have n0_ := Aside0.mk (below_step (by repeat (first | (with_reducible first | exact HB.out | apply below_alloc | apply pw_below_drewN | apply below_drew1) | exact HB.out)) hb); have n1_ := Aside0.mk (hbox); have n2_ := Aside0.mk ((by rw [hg]; exact (below_size (by repeat (first | (with_reducible first | exact HB.out | apply below_alloc | apply pw_below_drewN | apply below_drew1) | exact HB.out))) : w.heap.size ≤ gb101)); have n3_ := Aside0.mk ((by rw [hg]; exact (below_size (by repeat (first | (with_reducible first | exact HB.out | apply below_alloc | apply pw_below_drewN | apply below_drew1) | exact HB.out))) : w.heap.size ≤ gb101)); clear HB; have HB := n0_; have BK101 := n1_; have GW101 := n2_; have GE101 := n3_; clear n0_ n1_ n2_ n3_; clear hb hbox hg; have hcz19_0 : w18.cell? ⟨gb101, 0, none⟩ = some (.slice A0_0 l0_0.length c0_0) := (blk_cell BK101.out 0).trans rfl; have hcz19_1 : w18.cell? ⟨gb101, 1, none⟩ = some (.int .i64 a0_1) := (blk_cell BK101.out 1).trans rfl; have hcz19_2 : w18.cell? ⟨gb101, 2, none⟩ = some (.int .i64 a0_2) := (blk_cell BK101.out 2).trans rfl; have hcz19_3 : w18.cell? ⟨gb101, 3, none⟩ = some (.int .i64 a0_3) := (blk_cell BK101.out 3).trans rfl; have hcz19_4 : w18.cell? ⟨gb101, 4, none⟩ = some (.int .i64 a0_4) := (blk_cell BK101.out 4).trans rfl; have hcz19_5 : w18.cell? ⟨gb101, 5, none⟩ = some (.int .i64 a0_5) := (blk_cell BK101.out 5).trans rfl; have hcz19_6 : w18.cell? ⟨gb101, 6, none⟩ = some (.int .i64 a0_6) := (blk_cell BK101.out 6).trans rfl; have hfz19_0 := blk_frozen BK101.out 0; have hfz19_1 := blk_frozen BK101.out 1; have hfz19_2 := blk_frozen BK101.out 2; have hfz19_3 := blk_frozen BK101.out 3; have hfz19_4 := blk_frozen BK101.out 4; have hfz19_5 := blk_frozen BK101.out 5; have hfz19_6 := blk_frozen BK101.out 6) | ((with_reducible refine gate_callee (f := 15) rfl ?_); refine goesL_ (some 7) rfl rfl Try.func15 (by kernel_rfl) rfl #[.agg #[.slice A0_0 l0_0.length c0_0, .int .i64 a0_1, .int .i64 a0_2, .int .i64 a0_3, .int .i64 a0_4, .int .i64 a0_5, .int .i64 a0_6]] rfl (by (try simp only [List.map_toArray, List.map_cons, List.map_nil]); first | done | rfl | (simp only [List.length_drop, List.length_take]; rfl)) ?_; (with_reducible refine (impl_BookOk.calls _ _ l0_0 a0_1 a0_2 a0_3 a0_4 a0_5 a0_6 false _ ?side1 ?side2 A2.out).mono ?_); (case side1 => repeat (first | exact (Kd.C_below HR0_0.out HB.out) | (with_reducible refine Kd.C_alloc ?_ _) | (with_reducible refine Kd.C_drewN ?_ _) | (with_reducible refine Kd.C_drew ?_))); (case side2 => exact HC0_0.out); rintro e w20 ⟨rfl, hb⟩; refine ⟨_, rfl, ?_⟩; have n0_ := Aside0.mk (blk_below (g := gb101) (o := .cells #[.slice A0_0 l0_0.length c0_0, .int .i64 a0_1, .int .i64 a0_2, .int .i64 a0_3, .int .i64 a0_4, .int .i64 a0_5, .int .i64 a0_6] 35 (0, 0)) (by (with_reducible repeat (first | refine blk_drewN ?_ _ | refine blk_drew ?_ | refine blk_alloc ?_ _)); exact BK101.out) hb); have n1_ := Aside0.mk (below_step (by repeat (first | (with_reducible first | exact HB.out | apply below_alloc | apply pw_below_drewN | apply below_drew1 | refine below_set ?_ GE101.out) | exact HB.out)) hb); clear BK101; clear HB; have BK101 := n0_; have HB := n1_; clear n0_ n1_; (try clear hb); (try clear hb2); (try clear hk); (try clear hi)))
    go_ret
    exact ⟨by first | rfl | (simp [errW_none, errW_some] <;> rfl) | (simp [*, errW_none, errW_some] <;> rfl), by repeat (first | (with_reducible first | exact HB.out | apply below_alloc | apply pw_below_drewN | apply below_drew1 | refine below_set ?_ GE101.out) | exact HB.out)⟩
end Go.Proofs.Ytdlmincaplbpgaa.Q
namespace Go.Proofs.Ytdlmincaplbpgaa.Q
open Go.RowKit Go.Proofs.YtdlmincaplbpgaaW.PrintWords Go.Proofs.YtdlmincaplbpgaaW.PrintLast Go.Proofs.YtdlmincaplbpgaaW.PrintMore
attribute [local go_sem] max2_int min2_int max_two min_two max_three min_three max_four min_four
set_option linter.unusedVariables false
set_option linter.unusedSimpArgs false
def impl_bookCopy.f (l0_0 : List S54) (a0_1 a0_2 a0_3 a0_4 a0_5 a0_6 : Int) : Option ((List S54) × Int × Int × Int × Int × Int × Int) := if l0_0.length < 8796093022208 then some (l0_0, a0_1, a0_2, a0_3, a0_4, a0_5, a0_6) else none
set_option maxHeartbeats 1000000 in
theorem impl_bookCopy.calls (A0_0 : Option Addr) (c0_0 : Nat) (l0_0 : List S54) (a0_1 : Int) (a0_2 : Int) (a0_3 : Int) (a0_4 : Int) (a0_5 : Int) (a0_6 : Int) (r1 : List S54) (r2 : Int) (r3 : Int) (r4 : Int) (r5 : Int) (r6 : Int) (r7 : Int) (w : World) (hr0_0 : Kd.C k54 w A0_0 l0_0.length l0_0) (hc0_0 : l0_0.length ≤ c0_0) (h : impl_bookCopy.f l0_0 a0_1 a0_2 a0_3 a0_4 a0_5 a0_6 = some (r1, r2, r3, r4, r5, r6, r7)) :
    Calls Try.prog 56 #[.agg #[.slice A0_0 l0_0.length c0_0, .int .i64 a0_1, .int .i64 a0_2, .int .i64 a0_3, .int .i64 a0_4, .int .i64 a0_5, .int .i64 a0_6]] w fun e w' => ∃ v0_ : Value, e = .returned (.agg #[v0_, .int .i64 r2, .int .i64 r3, .int .i64 r4, .int .i64 r5, .int .i64 r6, .int .i64 r7]) ∧ Kd.R k54 54 w' w.heap.size (fun _ => True) v0_ r1 ∧ Below w.heap.size w w' := by
  unfold impl_bookCopy.f at h
  by_cases hl : l0_0.length < 8796093022208
  · rw [if_pos hl] at h
    simp only [Option.some.injEq, Prod.mk.injEq] at h
    obtain ⟨rfl, rfl, rfl, rfl, rfl, rfl, rfl⟩ := h
    have HR := Aside0.mk hr0_0
    have HL := Aside0.mk hl
    clear hr0_0 hl
    have da : ∀ (w : World) (n : Nat) (o : Obj), (w.drewN n).alloc o = (w.alloc o).drewN n := fun _ _ _ => rfl
    have ds : ∀ (w : World) (n : Nat) (a : Addr) (v : Value), (w.drewN n).setCell a v = (w.setCell a v).drewN n := fun _ _ _ _ => rfl
    go_enter Try.func56, Try.ntmps56
    go_wp2_with (first | ((with_reducible refine gate_builtin (b := .append) (xs := #[.tmp 3, .tmp 5]) rfl ?_); at_builtin; refine app_copy k54 (w.heap.size + 1 + 1) (by simp) rfl (.tmp 3) (.tmp 5) 31 54 (.agg #[(.int .i64 0), (.int .i64 0)]) 16 rfl Try.underlying31 info54 rfl (by decide) (by omega) l0_0 _ _ rfl rfl (Kd.C_below HR.out (below_alloc (below_alloc (Below.refl _ _) _) _)) (fun _ _ h => h) ((by have := HL.out; omega)) ?_; intro v1 w1 ho1 hb1; obtain ⟨hc1, hf1⟩ := bcell hb1; have : w.heap.size + 1 < w1.heap.size := (by have := hb1.size; simp at this; omega); have : w.heap.size < w1.heap.size := (by omega); have : w1.cell? ⟨w.heap.size, 0, none⟩ = some (.slice A0_0 l0_0.length c0_0) := (hc1 _ _ (by first | omega | (simp; done) | (simp; omega))).trans (by first | (go_simp; done) | (go_simp; rfl)); obtain ⟨A1, c1, rfl⟩ := Kd.R_slice ho1; have HO := Aside0.mk ho1; clear ho1))
    refine bodyPost_ret (v := .agg #[.slice A1 l0_0.length c1, .int .i64 a0_1, .int .i64 a0_2, .int .i64 a0_3, .int .i64 a0_4, .int .i64 a0_5, .int .i64 a0_6]) (by simp [results, Try.results56, go_sem, *]) rfl ⟨_, rfl, R_stays HO.out ?_ (by omega), ?_⟩
    · repeat (with_reducible first | exact Stays.refl _ _ | apply Stays.drewN | apply Stays.drew | apply Stays.alloc | (refine Stays.setLo ?_ ?_ _; rotate_left; omega) | (refine Stays.setHi ?_ ?_ _; rotate_left; omega))
    · repeat (with_reducible first | exact Below.refl _ _ | apply pw_below_drewN | apply below_drew1 | apply below_alloc | (refine below_set ?_ ?_; rotate_left; omega) | refine below_step ?_ hb1)
  · rw [if_neg hl] at h
    exact absurd h (by simp)
end Go.Proofs.Ytdlmincaplbpgaa.Q
namespace Go.Proofs.Ytdlmincaplbpgaa.Q
open Go.RowKit Go.Proofs.YtdlmincaplbpgaaW.PrintWords Go.Proofs.YtdlmincaplbpgaaW.PrintLast Go.Proofs.YtdlmincaplbpgaaW.PrintMore
attribute [local go_sem] max2_int min2_int max_two min_two max_three min_three max_four min_four
set_option linter.unusedVariables false
set_option linter.unusedSimpArgs false
def Grow (w w' : World) : Prop := Below w.heap.size w w'
theorem Grow.refl (w : World) : Grow w w := Below.refl _ _
theorem Grow.trans {a b c : World} (h : Grow a b) (k : Grow b c) : Grow a c := Below.trans h (k.mono h.size)
structure Gh where
  v : Nat → Value
  n : Nat → Nat
inductive Mk where
  | loud (firm : Bool) (V : Gh → Value) (p : Gh → World → Prop)
  | known (c : Value)
def Mk.V : Mk → Gh → Value
  | .loud _ V _ => V
  | .known c => fun _ => c
def Mk.p : Mk → Gh → World → Prop
  | .loud _ _ p => p
  | .known _ => fun _ _ => True
def Mk.firm : Mk → Bool
  | .loud f _ _ => f
  | .known _ => true
def Mk.Stable (D : World → World → Prop) : Mk → Prop
  | .loud f _ p => (∀ x w w', p x w → Grow w w' → p x w') ∧ (f = true → ∀ x w w', p x w → D w w' → p x w')
  | .known _ => True
def AllStable (D : World → World → Prop) (ex : Nat → Bool) : List (Nat × Mk) → Prop
  | [] => True
  | m :: l => (if ex m.1 then m.2.Stable (fun _ _ => False) else m.2.Stable D) ∧ AllStable D ex l
theorem Mk.Stable.weak {D : World → World → Prop} {m : Mk} (h : m.Stable D) : m.Stable (fun _ _ => False) := by
  cases m with
  | loud f V p => exact ⟨h.1, fun _ _ _ _ _ h => h.elim⟩
  | known c => trivial
theorem AllStable.get {D : World → World → Prop} {ex : Nat → Bool} {F : List (Nat × Mk)} (h : AllStable D ex F) {i : Nat} {m : Mk} (hm : F.lookup i = some m) : m.Stable (fun _ _ => False) ∧ (ex i = false → m.Stable D) := by
  induction F with
  | nil => cases hm
  | cons x F ih =>
    obtain ⟨k, y⟩ := x
    rw [List.lookup_cons] at hm
    cases hk : i == k with
    | true =>
      rw [hk] at hm
      simp only [Option.some.injEq] at hm
      have hk' : i = k := by simpa using hk
      subst hm hk'
      have h1 := h.1
      cases he : ex i with
      | true => rw [he, if_pos rfl] at h1; exact ⟨h1, fun h => by cases h⟩
      | false => rw [he, if_neg (by decide)] at h1; exact ⟨h1.weak, fun _ => h1⟩
    | false =>
      rw [hk] at hm
      exact ih h.2 hm
theorem Mk.Stable.grow {D : World → World → Prop} {m : Mk} (h : m.Stable D) {x : Gh} {w w' : World} (hp : m.p x w) (hg : Grow w w') : m.p x w' := by
  cases m with
  | loud f V p => exact h.1 x w w' hp hg
  | known c => trivial
theorem Mk.Stable.dz {D : World → World → Prop} {m : Mk} (h : m.Stable D) (hf : m.firm = true) {x : Gh} {w w' : World} (hp : m.p x w) (hg : D w w') : m.p x w' := by
  cases m with
  | loud f V p => exact h.2 hf x w w' hp hg
  | known c => trivial
section
variable {P : Program} {md : Region.Mode} {ops : Array Oper}
def dstOf (ops : Array Oper) (i : Nat) : Option Nat := (ops[i]?).bind (·.dst)
def valOf (ops : Array Oper) (a : Act) (i : Nat) : Value :=
  match dstOf ops i with
  | some d => a.tmps.getD d undef
  | none => undef
def HoldsL (F : List (Nat × Mk)) (xs : Nat → Gh) (w : World) (fo : Bool) : List Nat → Prop
  | [] => True
  | j :: l => (match F.lookup j with | some m => if fo && !m.firm then True else m.p (xs j) w | none => True) ∧ HoldsL F xs w fo l
def Exact (P : Program) (ops : Array Oper) (w : World) (o : Oper) (v : Value) (a : Act) : Prop :=
  (Region.wanted o (yielded ops a.tmps) = true ∧ (execOp a.eval o).run P w = .ok (.value v) w) ∨ (Region.wanted o (yielded ops a.tmps) = false ∧ v = undef)
def LoudAt (P : Program) (ops : Array Oper) (a : Act) (w : World) (o : Oper) (D : World → World → Prop) (m : Mk) : Prop :=
  Region.wanted o (yielded ops a.tmps) = true ∧ ∀ K : Act → World → Prop, (∀ x w', D w w' → m.p x w' → K (a.put o.dst (m.V x)) w') → o.wp P a w K (fun _ _ _ => False)
def pre (z : Option Nat) (clo : List (List Nat)) (i : Nat) : Bool := match z with
  | none => true
  | some k => i == k || (clo.getD k []).contains i
structure Reg where
  F : List (Nat × Mk)
  fl : List Nat
  clo : List (List Nat)
  z : Option Nat
  Wf : World → Prop
  Wt : World → Prop
  Dz : World → World → Prop
def Reg.ex (R : Reg) (j : Nat) : Bool := match R.z with
  | none => true
  | some k => j == k || (R.clo.getD j []).contains k
def Reg.W (R : Reg) (i : Nat) (w : World) : Prop := if pre R.z R.clo i then R.Wf w else R.Wt w
def Reg.D (R : Reg) (i : Nat) : World → World → Prop := if R.z = some i then R.Dz else Grow
def Reg.H (R : Reg) (xs : Nat → Gh) (i : Nat) (w : World) : Prop := HoldsL R.F xs w (!pre R.z R.clo i) (R.clo.getD i [])
def MonoSeq (P : Program) (ops : Array Oper) (R : Reg) (xs : Nat → Gh) (E : Act → World → Prop) : Nat → List Oper → Act → Prop
  | _, [], a => ∀ w, (if R.z = none then R.Wf w else R.Wt w) → HoldsL R.F xs w (R.z.isSome) (R.F.map (·.1)) → E a w
  | i, o :: rest, a =>
    match R.F.lookup i with
    | none => ∃ c, (∀ w, (R.fl.contains i = true ∨ (R.W i w ∧ R.H xs i w)) → Exact P ops w o c a) ∧ MonoSeq P ops R xs E (i + 1) rest (a.put o.dst c)
    | some m => (∀ w, R.W i w → R.H xs i w → LoudAt P ops a w o (R.D i) m) ∧ MonoSeq P ops R xs E (i + 1) rest (a.put o.dst (m.V (xs i)))
def isIn (ops : Array Oper) (n t : Nat) : List Nat := (List.range n).filter fun j => dstOf ops j == some t
def monoOp (md : Region.Mode) (ops : Array Oper) (ks : List Nat) (clo : List (List Nat)) (N n i : Nat) : Bool :=
  match ops[i]? with
  | none => false
  | some o =>
    (o.looksAt ops).all (fun t => (isIn ops n t).all fun j => (clo.getD i []).contains j) &&
    (clo.getD i []).all (fun j => decide (j < i) && o.after.any fun e => Region.binds md e && (e.on == j || (decide (e.on < i) && (clo.getD e.on []).contains j))) &&
    o.after.all (fun e => !Region.binds md e || decide (e.on < i)) &&
    (match o.dst with
     | some d => decide (d < N) && (isIn ops n d == [i])
     | none => !ks.contains i)
def floatB (md : Region.Mode) (ops : Array Oper) (fl : List Nat) (clo : List (List Nat)) (n f : Nat) : Bool :=
  decide (f < n) && match ops[f]? with
    | none => false
    | some o => o.after.all (fun e => !Region.binds md e || !fl.contains e.on) && (List.range ops.size).all fun j => j == f || (clo.getD f []).contains j || match ops[j]? with
        | some oj => oj.after.any (fun e => Region.binds md e && e.on == f) || o.apart ops oj
        | none => true
def sinkF (md : Region.Mode) (ops : Array Oper) (fl : List Nat) (n : Nat) : Bool :=
  (List.range n).all fun i => fl.contains i || (List.range (n + 1)).any fun j => decide (i < j) && !fl.contains j && Region.waitsFor md ops j i
def Region.monoB (md : Region.Mode) (ops : Array Oper) (ks fl : List Nat) (clo : List (List Nat)) (N n : Nat) : Bool :=
  Region.noSelect ops && (List.range n).all (monoOp md ops ks clo N n) && decide (n ≤ ops.size) &&
  (decide (n = ops.size) || (sinkF md ops fl n && Region.chainB md ops n)) &&
  Region.seqB md ops (ops.size - n) n ((List.range ops.size).map (fun i => decide (i < n))).toArray && ks.all (fun j => decide (j < n) && !fl.contains j) && fl.all (floatB md ops fl clo n)
end
section
variable {P : Program} {md : Region.Mode} {ops : Array Oper}
theorem valOf_dst {a : Act} {i d : Nat} (h : dstOf ops i = some d) : valOf ops a i = a.tmps.getD d undef := by unfold valOf; rw [h]
theorem valOf_none {a : Act} {i : Nat} (h : dstOf ops i = none) : valOf ops a i = undef := by unfold valOf; rw [h]
theorem valOf_congr {a b : Act} {i : Nat} (h : ∀ d, dstOf ops i = some d → a.tmps[d]? = b.tmps[d]?) : valOf ops a i = valOf ops b i := by
  cases hd : dstOf ops i with
  | none => rw [valOf_none hd, valOf_none hd]
  | some d => rw [valOf_dst hd, valOf_dst hd, Array.getD_eq_getD_getElem?, Array.getD_eq_getD_getElem?, h d hd]
theorem holdsL_of {F : List (Nat × Mk)} {xs : Nat → Gh} {w : World} {fo : Bool} : ∀ {l : List Nat}, (∀ j ∈ l, ∀ m, F.lookup j = some m → (fo = true → m.firm = true) → m.p (xs j) w) → HoldsL F xs w fo l
  | [], _ => trivial
  | j :: l, h => by
    refine ⟨?_, holdsL_of fun k hk => h k (List.mem_cons_of_mem _ hk)⟩
    cases hm : F.lookup j with
    | none => trivial
    | some m =>
      simp only
      split
      · trivial
      · rename_i hc
        refine h j List.mem_cons_self m hm fun hf => ?_
        subst hf
        simpa using hc
theorem holdsL_xs {F : List (Nat × Mk)} {xs ys : Nat → Gh} {w : World} {fo : Bool} : ∀ {l : List Nat}, (∀ j ∈ l, xs j = ys j) → HoldsL F xs w fo l → HoldsL F ys w fo l
  | [], _, _ => trivial
  | j :: l, h, H => by
    refine ⟨?_, holdsL_xs (fun k hk => h k (List.mem_cons_of_mem _ hk)) H.2⟩
    have := H.1
    rw [h j List.mem_cons_self] at this
    exact this
theorem lookup_mem {F : List (Nat × Mk)} {i : Nat} {m : Mk} (h : F.lookup i = some m) : i ∈ F.map (·.1) := by
  induction F with
  | nil => cases h
  | cons x F ih =>
    obtain ⟨k, y⟩ := x
    rw [List.lookup_cons] at h
    cases hk : i == k with
    | true => have : i = k := by simpa using hk
              subst this; simp
    | false => rw [hk] at h; exact List.mem_cons_of_mem _ (ih h)
theorem exec_same {o : Oper} (hs : ∀ cs b, o.op ≠ .select cs b) {a b : Act} (h : ∀ t ∈ o.looksAt ops, a.tmps[t]? = b.tmps[t]?) :
    execOp a.eval o = execOp b.eval o ∧ Region.wanted o (yielded ops a.tmps) = Region.wanted o (yielded ops b.tmps) := by
  constructor
  · refine execOp_congr o hs fun x hx => ?_
    cases x with
    | tmp t =>
      have h1 := h t (List.mem_append_left _ (List.mem_filterMap.2 ⟨.tmp t, by simpa using hx, rfl⟩))
      show a.tmps.getD t undef = b.tmps.getD t undef
      rw [Array.getD_eq_getD_getElem?, Array.getD_eq_getD_getElem?, h1]
    | _ => rfl
  · unfold Region.wanted
    cases hg : o.guard with
    | none => rfl
    | some gw =>
      obtain ⟨g, want⟩ := gw
      have hy : yielded ops a.tmps g = yielded ops b.tmps g := by
        unfold yielded
        cases ht : (ops[g]?).bind (·.dst) with
        | none => rfl
        | some t =>
          have h1 := h t (List.mem_append_right _ (by simp [hg, ht]))
          simp only [Option.bind_some, h1]
      simp only [hy]
structure MonoOp (md : Region.Mode) (ops : Array Oper) (ks : List Nat) (clo : List (List Nat)) (N n i : Nat) (o : Oper) : Prop where
  looks : ∀ t ∈ o.looksAt ops, ∀ j, j < n → dstOf ops j = some t → j ∈ clo.getD i []
  clo : ∀ j ∈ clo.getD i [], j < i ∧ ∃ e ∈ o.after, Region.binds md e = true ∧ (e.on = j ∨ (e.on < i ∧ j ∈ clo.getD e.on []))
  back : ∀ e ∈ o.after, Region.binds md e = true → e.on < i
  dst : ∀ d, o.dst = some d → d < N ∧ ∀ j, j < n → dstOf ops j = some d → j = i
  nodst : o.dst = none → i ∉ ks
theorem mem_isIn {n t j : Nat} : j ∈ isIn ops n t ↔ j < n ∧ dstOf ops j = some t := by
  unfold isIn
  rw [List.mem_filter, List.mem_range]
  simp
theorem monoOp_spec {ks : List Nat} {clo : List (List Nat)} {N n i : Nat} {o : Oper} (ho : ops[i]? = some o) (h : monoOp md ops ks clo N n i = true) : MonoOp md ops ks clo N n i o := by
  unfold monoOp at h
  simp only [ho, Bool.and_eq_true] at h
  obtain ⟨⟨⟨h1, h2⟩, h3⟩, h4⟩ := h
  refine ⟨fun t ht j hj hd => ?_, fun j hj => ?_, fun e he hb => ?_, fun d hd => ?_, fun hd => ?_⟩
  · have h5 := List.all_eq_true.1 h1 t ht
    have h6 := List.all_eq_true.1 h5 j (mem_isIn.2 ⟨hj, hd⟩)
    simpa using h6
  · have h5 := List.all_eq_true.1 h2 j hj
    simp only [Bool.and_eq_true, decide_eq_true_eq] at h5
    obtain ⟨h5, h6⟩ := h5
    obtain ⟨e, he, h7⟩ := Array.any_eq_true'.1 h6
    simp only [Bool.and_eq_true, Bool.or_eq_true, beq_iff_eq, decide_eq_true_eq, List.contains_iff_mem] at h7
    exact ⟨h5, e, he, h7.1, h7.2⟩
  · have h5 := Array.all_eq_true_iff_forall_mem.1 h3 e he
    simpa [hb] using h5
  · simp only [hd, Bool.and_eq_true, decide_eq_true_eq, beq_iff_eq] at h4
    refine ⟨h4.1, fun j hj hjd => ?_⟩
    have := mem_isIn.2 ⟨hj, hjd⟩
    rw [h4.2] at this
    simpa using this
  · simp only [hd] at h4
    simpa using h4
def LoudR (P : Program) (p : Value → World → Prop) : Result Next → Prop
  | .ok (.value v) w' => p v w'
  | .ok .skip w' => p undef w'
  | .ok (.enter f args) w' => Calls P f args w' fun e w'' => match e with
    | .returned v => p v w''
    | _ => False
  | .ok (.row row args) w' => Rows P row args w' p
  | _ => False
theorem put_inj {a : Act} {d : Nat} (hd : d < a.tmps.size) {v v' : Value} (h : a.put (some d) v = a.put (some d) v') : v = v' := by
  have h1 := congrArg (fun x : Act => x.tmps[d]?) h
  simpa [Act.put, hd] using h1
theorem loudR_of {a : Act} {w : World} {o : Oper} {D : World → World → Prop} {m : Mk} {d : Nat} (ho : o.dst = some d) (hd : d < a.tmps.size) (h : LoudAt P ops a w o D m) :
    Region.wanted o (yielded ops a.tmps) = true ∧ LoudR P (fun v w' => ∃ x, v = m.V x ∧ D w w' ∧ m.p x w') ((execOp a.eval o).run P w) := by
  refine ⟨h.1, ?_⟩
  have h1 := h.2 (fun a' w' => ∃ v, a' = a.put (some d) v ∧ ∃ x, v = m.V x ∧ D w w' ∧ m.p x w') (fun x w' hg hp => ⟨m.V x, by rw [ho], x, rfl, hg, hp⟩)
  unfold Oper.wp at h1
  generalize (execOp a.eval o).run P w = r at *
  cases r with
  | ok y w' =>
    cases y with
    | value v =>
      simp only [Oper.upon, ho] at h1
      obtain ⟨v', h2, h3⟩ := h1
      have := put_inj hd h2
      subst this
      exact h3
    | skip =>
      simp only [Oper.upon, ho] at h1
      obtain ⟨v', h2, h3⟩ := h1
      have := put_inj hd h2
      subst this
      exact h3
    | defer y =>
      simp only [Oper.upon, ho] at h1
      obtain ⟨v', h2, h3⟩ := h1
      have := congrArg (fun x : Act => x.defers.length) h2
      simp [Act.put] at this
    | enter f args =>
      simp only [Oper.upon] at h1
      refine h1.mono fun e w'' he => ?_
      cases e with
      | returned v =>
        simp only [ho] at he
        obtain ⟨v', h2, h3⟩ := he
        have := put_inj hd h2
        subst this
        exact h3
      | panicked c => exact he.elim
      | outgrown => obtain ⟨_, _, he⟩ := he; exact he.elim
    | row row args =>
      simp only [Oper.upon, ho] at h1
      refine h1.mono fun v w'' he => ?_
      obtain ⟨v', h2, h3⟩ := he
      have := put_inj hd h2
      subst this
      exact h3
    | _ => simp only [Oper.upon] at h1
  | halt x w' => cases x <;> simp only [Oper.upon] at h1
theorem wp_of_loudR {a : Act} {w : World} {o : Oper} {p : Value → World → Prop} {K : Act → World → Prop} {Q : Exit → Act → World → Prop} (h : LoudR P p ((execOp a.eval o).run P w)) (hK : ∀ v w', p v w' → K (a.put o.dst v) w') : o.wp P a w K Q := by
  unfold Oper.wp
  generalize (execOp a.eval o).run P w = r at *
  cases r with
  | ok x w' =>
    cases x <;> simp only [LoudR, Oper.upon] at h ⊢
    case value v => exact hK _ _ h
    case skip => exact hK _ _ h
    case enter f args =>
      refine h.mono fun e w'' he => ?_
      cases e with
      | returned v => exact hK _ _ he
      | panicked c => exact he.elim
      | outgrown => exact he.elim
    case row row args => exact h.mono fun v w'' he => hK _ _ he
  | halt x w' => cases x <;> simp only [LoudR] at h
theorem wp_of_exact {a : Act} {w : World} {i : Nat} {o : Oper} {v : Value} {K : Act → World → Prop} {Q : Exit → Act → World → Prop} (ho : ops[i]? = some o) (h : Exact P ops w o v a) (hK : K (a.put o.dst v) w) : wpOp P ops Q i K a w := by
  unfold Go.wpOp
  simp only [ho]
  rcases h with ⟨hw, hv⟩ | ⟨hw, rfl⟩
  · simp only [hw, if_true, Oper.wp, hv, Oper.upon]; exact .inl hK
  · simp only [hw, Bool.false_eq_true, if_false]; exact hK
theorem exact_unique {a : Act} {w : World} {o : Oper} {v v' : Value} (h : Exact P ops w o v a) (h' : Exact P ops w o v' a) : v = v' := by
  rcases h with ⟨hw, hv⟩ | ⟨hw, rfl⟩
  · rcases h' with ⟨hw', hv'⟩ | ⟨hw', rfl⟩
    · rw [hv] at hv'
      injection hv' with h1 _
      injection h1
    · rw [hw] at hw'; cases hw'
  · rcases h' with ⟨hw', hv'⟩ | ⟨hw', rfl⟩
    · rw [hw] at hw'; cases hw'
    · rfl
theorem exact_congr {a b : Act} {w : World} {o : Oper} {v : Value} (h : execOp a.eval o = execOp b.eval o ∧ Region.wanted o (yielded ops a.tmps) = Region.wanted o (yielded ops b.tmps)) (H : Exact P ops w o v a) : Exact P ops w o v b := by
  unfold Exact at *
  rw [← h.1, ← h.2]
  exact H
def OpSpec (P : Program) (ops : Array Oper) (R : Reg) (xs : Nat → Gh) (A : Act) (j : Nat) (o : Oper) : Prop :=
  match R.F.lookup j with
  | none => ∃ c, (∀ d, dstOf ops j = some d → valOf ops A j = c) ∧ ∀ w, (R.fl.contains j = true ∨ (R.W j w ∧ R.H xs j w)) → Exact P ops w o c A
  | some m => valOf ops A j = m.V (xs j) ∧
      ∀ w, R.W j w → R.H xs j w → Region.wanted o (yielded ops A.tmps) = true ∧ LoudR P (fun v w' => ∃ x, v = m.V x ∧ R.D j w w' ∧ m.p x w') ((execOp A.eval o).run P w)
theorem put_get {a : Act} {o : Option Nat} {c : Value} {t : Nat} (h : o ≠ some t) : (a.put o c).tmps[t]? = a.tmps[t]? := by
  cases o with
  | none => rfl
  | some d => simp only [Act.put]; rw [Array.getElem?_setIfInBounds_ne (fun e => h (by rw [e]))]
theorem put_size (a : Act) (o : Option Nat) (c : Value) : (a.put o c).tmps.size = a.tmps.size := by cases o <;> simp [Act.put]
theorem put_defers' (a : Act) (o : Option Nat) (c : Value) : (a.put o c).defers = a.defers := by cases o <;> rfl
theorem spec_of_seq {R : Reg} {xs : Nat → Gh} {E : Act → World → Prop} {N n : Nat} (hsel : Region.noSelect ops = true) (ok : ∀ i o, i < n → ops[i]? = some o → MonoOp md ops (R.F.map (·.1)) R.clo N n i o) :
    ∀ (rest : List Oper) (i : Nat) (a : Act), i + rest.length = n → (∀ k, k < rest.length → ops[i + k]? = rest[k]?) → a.tmps.size = N → MonoSeq P ops R xs E i rest a →
    ∃ A : Act, A.defers = a.defers ∧ A.tmps.size = N ∧ (∀ t, (∀ j, i ≤ j → j < n → dstOf ops j ≠ some t) → A.tmps[t]? = a.tmps[t]?) ∧ (∀ j o, i ≤ j → j < n → ops[j]? = some o → OpSpec P ops R xs A j o) ∧
      (∀ w, (if R.z = none then R.Wf w else R.Wt w) → HoldsL R.F xs w (R.z.isSome) (R.F.map (·.1)) → E A w)
  | [], i, a, hn, _, hN, h => by
    have : i = n := by simpa using hn
    exact ⟨a, rfl, hN, fun _ _ => rfl, fun j o h1 h2 _ => by omega, h⟩
  | o :: rest, i, a, hn, hl, hN, h => by
    have hin : i < n := by simp only [List.length_cons] at hn; omega
    have ho : ops[i]? = some o := by simpa using hl 0 (by simp)
    have M := ok i o hin ho
    have hdi : dstOf ops i = o.dst := by simp [dstOf, ho]
    have step : ∀ c : Value, MonoSeq P ops R xs E (i + 1) rest (a.put o.dst c) →
        ∃ A : Act, A.defers = a.defers ∧ A.tmps.size = N ∧ (∀ t, (∀ j, i ≤ j → j < n → dstOf ops j ≠ some t) → A.tmps[t]? = a.tmps[t]?) ∧ (∀ j o, i + 1 ≤ j → j < n → ops[j]? = some o → OpSpec P ops R xs A j o) ∧
          (∀ w, (if R.z = none then R.Wf w else R.Wt w) → HoldsL R.F xs w (R.z.isSome) (R.F.map (·.1)) → E A w) ∧ (∀ d, dstOf ops i = some d → valOf ops A i = c) ∧ (execOp A.eval o = execOp a.eval o ∧ Region.wanted o (yielded ops A.tmps) = Region.wanted o (yielded ops a.tmps)) := by
      intro c hc
      obtain ⟨A, h1, h2, h3, h4, h5⟩ := spec_of_seq hsel ok rest (i + 1) (a.put o.dst c) (by simp only [List.length_cons] at hn; omega) (fun k hk => by have := hl (k + 1) (by simpa using hk); rw [show i + (k + 1) = i + 1 + k by omega] at this; simpa using this) (by rw [put_size]; exact hN) hc
      have old : ∀ t, (∀ j, i ≤ j → j < n → dstOf ops j ≠ some t) → A.tmps[t]? = a.tmps[t]? := fun t ht => by
        rw [h3 t (fun j hj => ht j (by omega)), put_get (by rw [← hdi]; exact ht i (Nat.le_refl _) hin)]
      refine ⟨A, h1.trans (put_defers' _ _ _), h2, old, h4, h5, fun d hd => ?_, exec_same (fun cs b => Region.noSelect_spec hsel i o cs b ho) fun t ht => old t fun j hj hjn hjt => ?_⟩
      · have hd' : o.dst = some d := hdi ▸ hd
        have h6 := h3 d (fun j hj hjn hjd => by have := (M.dst d hd').2 j hjn hjd; omega)
        rw [valOf_dst hd, Array.getD_eq_getD_getElem?, h6, hd']
        have h7 := (M.dst d hd').1
        rw [← hN] at h7
        simp [Act.put, h7]
      · have := (M.clo j (M.looks t ht j hjn hjt)).1
        omega
    unfold MonoSeq at h
    cases hm : R.F.lookup i with
    | none =>
      simp only [hm] at h
      obtain ⟨c, hx, hc⟩ := h
      obtain ⟨A, h1, h2, h3, h4, h5, h6, h7⟩ := step c hc
      refine ⟨A, h1, h2, h3, fun j oj hj hjn hoj => ?_, h5⟩
      by_cases hji : j = i
      · subst hji
        have : oj = o := Option.some.inj (hoj.symm.trans ho)
        subst this
        unfold OpSpec
        simp only [hm]
        exact ⟨c, h6, fun w hg => exact_congr ⟨h7.1.symm, h7.2.symm⟩ (hx w hg)⟩
      · exact h4 j oj (by omega) hjn hoj
    | some m =>
      have hd : ∃ d, o.dst = some d := by
        cases hd : o.dst with
        | none => exact absurd (lookup_mem hm) (M.nodst hd)
        | some d => exact ⟨d, rfl⟩
      obtain ⟨d, hd⟩ := hd
      have hdN : d < a.tmps.size := by rw [hN]; exact (M.dst d hd).1
      simp only [hm] at h
      obtain ⟨hx, hc⟩ := h
      obtain ⟨A, h1, h2, h3, h4, h5, h6, h7⟩ := step (m.V (xs i)) hc
      refine ⟨A, h1, h2, h3, fun j oj hj hjn hoj => ?_, h5⟩
      by_cases hji : j = i
      · subst hji
        have : oj = o := Option.some.inj (hoj.symm.trans ho)
        subst this
        unfold OpSpec
        simp only [hm]
        exact ⟨h6 d (by rw [hdi, hd]), fun w hg hh => by rw [h7.1, h7.2]; exact loudR_of hd hdN (hx w hg hh)⟩
      · exact h4 j oj (by omega) hjn hoj
structure MonoInv (P : Program) (md : Region.Mode) (ops : Array Oper) (R : Reg) (a0 : Act) (n : Nat) (xs : Nat → Gh) (listed : Array Bool) (b : Act) (w : World) : Prop where
  hd : HeadInv md ops n listed
  df : b.defers = a0.defers
  sz : b.tmps.size = a0.tmps.size
  wf : (∀ k, R.z = some k → listed.getD k false = false) → R.Wf w
  wt : R.z ≠ none → R.Wt w
  old : ∀ t, (∀ i, i < n → listed.getD i false = true → dstOf ops i ≠ some t) → b.tmps[t]? = a0.tmps[t]?
  op : ∀ i o, i < n → listed.getD i false = true → ops[i]? = some o → match R.F.lookup i with
    | none => ∃ c wj, (∀ d, dstOf ops i = some d → valOf ops b i = c) ∧ (R.fl.contains i = true ∨ (R.W i wj ∧ R.H xs i wj)) ∧ Exact P ops wj o c b
    | some m => valOf ops b i = m.V (xs i) ∧ (m.firm = true ∨ (∀ k, R.z = some k → listed.getD k false = false) → m.p (xs i) w)
theorem clo_listed {ks : List Nat} {clo : List (List Nat)} {N n : Nat} (ok : ∀ i o, i < n → ops[i]? = some o → MonoOp md ops ks clo N n i o) {listed : Array Bool} (hc : HeadInv md ops n listed) (hn : n ≤ ops.size) :
    ∀ (i : Nat) (o : Oper), i < n → ops[i]? = some o → (∀ e ∈ o.after, Region.binds md e = true → listed.getD e.on false = true) → ∀ j ∈ clo.getD i [], listed.getD j false = true := by
  intro i
  induction i using Nat.strongRecOn with
  | _ i ih =>
    intro o hi ho hall j hj
    obtain ⟨hji, e, he, hb, h1⟩ := (ok i o hi ho).clo j hj
    rcases h1 with h1 | ⟨h1, h2⟩
    · rw [← h1]; exact hall e he hb
    · have hl := hall e he hb
      obtain ⟨oe, hoe⟩ : ∃ oe, ops[e.on]? = some oe := ⟨ops[e.on]'(by omega), Array.getElem?_eq_getElem (by omega)⟩
      exact ih e.on h1 oe (by omega) hoe (hc.closed e.on oe hoe hl) j h2
theorem get_of_val {a b : Act} {t : Nat} (h : a.tmps.size = b.tmps.size) (ht : t < b.tmps.size) (hv : a.tmps.getD t undef = b.tmps.getD t undef) : a.tmps[t]? = b.tmps[t]? := by
  have h1 : t < a.tmps.size := by omega
  rw [Array.getElem?_eq_getElem h1, Array.getElem?_eq_getElem ht]
  simpa [Array.getD, h1, ht] using hv
section
variable {R : Reg} {a0 : Act} {N n : Nat}
theorem op_same (hsel : Region.noSelect ops = true) (ok : ∀ i o, i < n → ops[i]? = some o → MonoOp md ops (R.F.map (·.1)) R.clo N n i o) {i : Nat} {o : Oper} (hi : i < n) (ho : ops[i]? = some o) {A b : Act} (hA : A.tmps.size = N) (hb : b.tmps.size = N)
    (hold : ∀ t, (∀ j, j < n → dstOf ops j ≠ some t) → A.tmps[t]? = b.tmps[t]?) (h : ∀ j ∈ R.clo.getD i [], valOf ops A j = valOf ops b j) :
    execOp A.eval o = execOp b.eval o ∧ Region.wanted o (yielded ops A.tmps) = Region.wanted o (yielded ops b.tmps) := by
  have M := ok i o hi ho
  refine exec_same (fun cs b => Region.noSelect_spec hsel i o cs b ho) fun t ht => ?_
  by_cases hx : ∃ j, j < n ∧ dstOf ops j = some t
  · obtain ⟨j, hj, hd⟩ := hx
    have h1 := h j (M.looks t ht j hj hd)
    rw [valOf_dst hd, valOf_dst hd] at h1
    obtain ⟨oj, hoj⟩ : ∃ oj, ops[j]? = some oj := by
      cases hj' : ops[j]? with
      | none => simp [dstOf, hj'] at hd
      | some oj => exact ⟨oj, rfl⟩
    have hdj : oj.dst = some t := by simpa [dstOf, hoj] using hd
    have hlt := ((ok j oj hj hoj).dst t hdj).1
    exact get_of_val (hA.trans hb.symm) (by rw [hb]; exact hlt) h1
  · exact hold t fun j hj hd => hx ⟨j, hj, hd⟩
theorem inv_old {xs : Nat → Gh} {listed : Array Bool} {b A : Act} {w : World} (inv : MonoInv P md ops R a0 n xs listed b w) (hold : ∀ t, (∀ j, j < n → dstOf ops j ≠ some t) → A.tmps[t]? = a0.tmps[t]?) :
    ∀ t, (∀ j, j < n → dstOf ops j ≠ some t) → A.tmps[t]? = b.tmps[t]? := fun t ht => (hold t ht).trans (inv.old t fun i hi _ => ht i hi).symm
theorem agree (hsel : Region.noSelect ops = true) (hn : n ≤ ops.size) (hN : a0.tmps.size = N) (ok : ∀ i o, i < n → ops[i]? = some o → MonoOp md ops (R.F.map (·.1)) R.clo N n i o) {xs : Nat → Gh} {listed : Array Bool} {b A : Act} {w : World} (inv : MonoInv P md ops R a0 n xs listed b w)
    (hA : A.tmps.size = N) (hold : ∀ t, (∀ j, j < n → dstOf ops j ≠ some t) → A.tmps[t]? = a0.tmps[t]?) (hop : ∀ j o, j < n → ops[j]? = some o → OpSpec P ops R xs A j o) :
    ∀ i, i < n → listed.getD i false = true → valOf ops A i = valOf ops b i := by
  intro i
  induction i using Nat.strongRecOn with
  | _ i ih =>
    intro hi hl
    obtain ⟨o, ho⟩ : ∃ o, ops[i]? = some o := ⟨ops[i]'(by omega), Array.getElem?_eq_getElem (by omega)⟩
    have hs := hop i o hi ho
    have hv := inv.op i o hi hl ho
    unfold OpSpec at hs
    cases hm : R.F.lookup i with
    | none =>
      simp only [hm] at hs hv
      obtain ⟨c, h1, h2⟩ := hs
      obtain ⟨c', wj, h3, hW, h4⟩ := hv
      cases hd : dstOf ops i with
      | none => rw [valOf_none hd, valOf_none hd]
      | some d =>
        rw [h1 d hd, h3 d hd]
        have hclo := clo_listed ok inv.hd hn i o hi ho (inv.hd.closed i o ho hl)
        have hsame := op_same hsel ok hi ho hA (inv.sz.trans hN) (inv_old inv hold) fun j hj => by
          have hji := ((ok i o hi ho).clo j hj).1
          exact ih j hji (by omega) (hclo j hj)
        exact exact_unique (exact_congr hsame (h2 wj hW)) h4
    | some m =>
      simp only [hm] at hs hv
      exact hs.1.trans hv.1.symm
theorem inv_step (hF : AllStable R.Dz R.ex R.F) (hWf : ∀ w w', R.Wf w → Grow w w' → R.Wf w') (hWt : ∀ w w', R.Wt w → Grow w w' → R.Wt w') (hZ : ∀ w w', R.Wf w → R.Dz w w' → R.Wt w') (hsel : Region.noSelect ops = true) (hn : n ≤ ops.size) (hN : a0.tmps.size = N) (ok : ∀ i o, i < n → ops[i]? = some o → MonoOp md ops (R.F.map (·.1)) R.clo N n i o) {xs ys : Nat → Gh} {listed : Array Bool} {b : Act} {w w' : World} (inv : MonoInv P md ops R a0 n xs listed b w)
    {i : Nat} {o : Oper} (hi : i < n) (ho : ops[i]? = some o) (hr : i ∈ Region.ready md ops listed) {v : Value} (hg : R.D i w w') (hys : ∀ j, j ≠ i → ys j = xs j)
    (hnew : match R.F.lookup i with
      | none => ∃ c wj, (∀ d, dstOf ops i = some d → valOf ops (b.put o.dst v) i = c) ∧ (R.fl.contains i = true ∨ (R.W i wj ∧ R.H ys i wj)) ∧ Exact P ops wj o c (b.put o.dst v)
      | some m => valOf ops (b.put o.dst v) i = m.V (ys i) ∧ m.p (ys i) w') : MonoInv P md ops R a0 n ys (listed.setIfInBounds i true) (b.put o.dst v) w' := by
  have hun := getD_both (mem_ready.1 hr).1
  have hdi : dstOf ops i = o.dst := by simp [dstOf, ho]
  have hother : ∀ j, j ≠ i → (listed.setIfInBounds i true).getD j false = true → listed.getD j false = true := fun j hj h => by rwa [getD_set_ne false (Ne.symm hj)] at h
  have hii : (listed.setIfInBounds i true).getD i false = true := by
    have : i < listed.size := by rw [inv.hd.size]; omega
    simp [this]
  have hzn : ∀ k, R.z = some k → (listed.setIfInBounds i true).getD k false = false → k ≠ i ∧ listed.getD k false = false := fun k _ hl => by
    have hki : k ≠ i := fun e => by subst e; rw [hii] at hl; cases hl
    exact ⟨hki, by rwa [getD_set_ne false (Ne.symm hki)] at hl⟩
  refine ⟨inv.hd.set hr hi, (put_defers' _ _ _).trans inv.df, (put_size _ _ _).trans inv.sz, fun hz => ?_, fun hz => ?_, fun t ht => ?_, fun j oj hj hl hoj => ?_⟩
  · have hni : R.z ≠ some i := fun e => (hzn i e (hz i e)).1 rfl
    unfold Reg.D at hg
    rw [if_neg hni] at hg
    exact hWf _ _ (inv.wf fun k hk => (hzn k hk (hz k hk)).2) hg
  · unfold Reg.D at hg
    by_cases hzi : R.z = some i
    · rw [if_pos hzi] at hg
      exact hZ _ _ (inv.wf fun k hk => by rw [hzi] at hk; injection hk with hk; rw [← hk]; exact hun) hg
    · rw [if_neg hzi] at hg
      exact hWt _ _ (inv.wt hz) hg
  · rw [put_get (by rw [← hdi]; exact ht i hi hii)]
    exact inv.old t fun j hj hl => ht j hj (getD_set_true hl)
  · by_cases hji : j = i
    · subst hji
      have : oj = o := Option.some.inj (hoj.symm.trans ho)
      subst this
      cases hm : R.F.lookup j with
      | none => simp only [hm] at hnew ⊢; exact hnew
      | some m => simp only [hm] at hnew ⊢; exact ⟨hnew.1, fun _ => hnew.2⟩
    · have hlj := hother j hji hl
      have h1 := inv.op j oj hj hlj hoj
      have hval : valOf ops (b.put o.dst v) j = valOf ops b j := valOf_congr fun d hd => put_get fun hd' => hji (by
        exact ((ok i o hi ho).dst d hd').2 j hj hd)
      cases hm : R.F.lookup j with
      | none =>
        simp only [hm] at h1 ⊢
        obtain ⟨c, wj, h2, hW, h3⟩ := h1
        have hclo := clo_listed ok inv.hd hn j oj hj hoj (inv.hd.closed j oj hoj hlj)
        refine ⟨c, wj, fun d hd => hval.trans (h2 d hd), hW.imp id fun hW => ⟨hW.1, holdsL_xs (fun k hk => (hys k fun e => ?_).symm) hW.2⟩, ?_⟩
        · have := hclo k hk
          rw [e, hun] at this
          cases this
        · refine exact_congr (exec_same (fun cs b => Region.noSelect_spec hsel j oj cs b hoj) fun t ht => (put_get fun hd => ?_).symm) h3
          have h4 := (ok j oj hj hoj).looks t ht i hi (by rw [hdi, hd])
          have h5 := hclo i h4
          rw [hun] at h5
          cases h5
      | some m =>
        simp only [hm] at h1 ⊢
        rw [hval, hys j hji]
        refine ⟨h1.1, fun hfz => ?_⟩
        unfold Reg.D at hg
        by_cases hzi : R.z = some i
        · rw [if_pos hzi] at hg
          have hf : m.firm = true := hfz.resolve_right fun hz => by
            have := hz i hzi
            rw [hii] at this
            cases this
          have hex : R.ex j = false := by
            have hx : R.ex j = (j == i || (R.clo.getD j []).contains i) := by unfold Reg.ex; rw [hzi]
            rw [hx]
            cases hc : (j == i || (R.clo.getD j []).contains i) with
            | false => rfl
            | true =>
              simp only [Bool.or_eq_true, beq_iff_eq, List.contains_iff_mem] at hc
              rcases hc with hc | hc
              · exact absurd hc hji
              · have := clo_listed ok inv.hd hn j oj hj hoj (inv.hd.closed j oj hoj hlj) i hc
                rw [hun] at this
                cases this
          exact ((hF.get hm).2 hex).dz hf (h1.2 (.inl hf)) hg
        · rw [if_neg hzi] at hg
          exact (hF.get hm).1.grow (h1.2 (hfz.imp id fun hz k hk => (hzn k hk (hz k hk)).2)) hg
def cntU (listed : Array Bool) : Nat → Nat
  | 0 => 0
  | m + 1 => cntU listed m + if listed.getD m false = true then 0 else 1
theorem cntU_set {listed : Array Bool} {i : Nat} (hs : i < listed.size) (hu : listed.getD i false = false) : ∀ m, cntU (listed.setIfInBounds i true) m + (if i < m then 1 else 0) = cntU listed m
  | 0 => rfl
  | m + 1 => by
    have ih := cntU_set hs hu m
    show cntU (listed.setIfInBounds i true) m + (if (listed.setIfInBounds i true).getD m false = true then 0 else 1) + (if i < m + 1 then 1 else 0) = cntU listed m + (if listed.getD m false = true then 0 else 1)
    by_cases hmi : i = m
    · subst hmi
      have h1 : (listed.setIfInBounds i true).getD i false = true := by simp [hs]
      rw [h1, hu]
      rw [if_neg (Nat.lt_irrefl i)] at ih
      rw [if_pos rfl, if_pos (Nat.lt_succ_self i), if_neg (by decide)]
      omega
    · rw [getD_set_ne false hmi]
      by_cases hlt : i < m
      · rw [if_pos hlt] at ih; rw [if_pos (show i < m + 1 by omega)]; omega
      · rw [if_neg hlt] at ih; rw [if_neg (show ¬ i < m + 1 by omega)]; omega
theorem cntU_zero {listed : Array Bool} : ∀ {m}, cntU listed m = 0 → ∀ i, i < m → listed.getD i false = true
  | m + 1, h, i, hi => by
    unfold cntU at h
    by_cases hm : listed.getD m false = true
    · by_cases him : i = m
      · subst him; exact hm
      · rw [if_pos hm] at h
        exact cntU_zero (m := m) (by omega) i (by omega)
    · rw [if_neg hm] at h; omega
theorem cntU_pos {listed : Array Bool} : ∀ {m}, 0 < cntU listed m → ∃ i, i < m ∧ listed.getD i false = false
  | 0, h => by simp [cntU] at h
  | m + 1, h => by
    unfold cntU at h
    by_cases hm : listed.getD m false = true
    · rw [if_pos hm] at h
      obtain ⟨i, hi, h1⟩ := cntU_pos (m := m) (by omega)
      exact ⟨i, by omega, h1⟩
    · exact ⟨m, by omega, by simpa using hm⟩
theorem ready_ne (ok : ∀ i o, i < n → ops[i]? = some o → MonoOp md ops (R.F.map (·.1)) R.clo N n i o) (hn : n ≤ ops.size) {listed : Array Bool} (hs : listed.size = ops.size) : ∀ i, i < n → listed.getD i false = false → Region.ready md ops listed ≠ [] := by
  intro i
  induction i using Nat.strongRecOn with
  | _ i ih =>
    intro hi hu
    obtain ⟨o, ho⟩ : ∃ o, ops[i]? = some o := ⟨ops[i]'(by omega), Array.getElem?_eq_getElem (by omega)⟩
    by_cases hx : ∀ e ∈ o.after, Region.binds md e = true → listed.getD e.on false = true
    · intro h0
      have : i ∈ Region.ready md ops listed := mem_ready.2 ⟨getD_in (by omega) hu, o, ho, hx⟩
      rw [h0] at this
      cases this
    · simp only [Classical.not_forall] at hx
      obtain ⟨e, he, hb, hl⟩ := hx
      have hlt := (ok i o hi ho).back e he hb
      exact ih e.on hlt (by omega) (by simpa using hl)
theorem tail_waitsF {fl : List Nat} {listed : Array Bool} (hs : sinkF md ops fl n = true) (hc : Region.chainB md ops n = true) (hn : n < ops.size) (inv : HeadInv md ops n listed) :
    ∀ (d i : Nat), n - i = d → i < n → fl.contains i = false → listed.getD i true = false → ∀ t, n ≤ t → t ∉ Region.ready md ops listed := by
  intro d
  induction d using Nat.strongRecOn with
  | _ d ih =>
    intro i hd hi hfl hun t ht hr
    obtain ⟨_, ot, hot, hall⟩ := mem_ready.1 hr
    have htlt : t < ops.size := (Array.getElem?_eq_some_iff.1 hot).1
    by_cases htn : t = n
    · subst htn
      have h1 := List.all_eq_true.1 hs i (List.mem_range.2 hi)
      rw [hfl, Bool.false_or] at h1
      obtain ⟨j, hj, hj2⟩ := List.any_eq_true.1 h1
      simp only [Bool.and_eq_true, decide_eq_true_eq, Bool.not_eq_true'] at hj2
      obtain ⟨⟨hj2, hj3⟩, hj4⟩ := hj2
      obtain ⟨oj, hoj, e, he, hb, hon⟩ := Region.waitsFor_spec hj4
      have hjle : j ≤ t := by have := List.mem_range.1 hj; omega
      by_cases hjt : j = t
      · subst hjt
        have : oj = ot := Option.some.inj (hoj.symm.trans hot)
        subst this
        have h2 := hall e he hb
        rw [hon, getD_both hun] at h2
        cases h2
      · cases hl : listed.getD j false with
        | true =>
          have h2 := inv.closed j oj hoj hl e he hb
          rw [hon, getD_both hun] at h2
          cases h2
        | false =>
          have hjs : j < listed.size := by rw [inv.size]; omega
          exact ih (t - j) (by omega) j rfl (by omega) hj3 (getD_in hjs hl) t (Nat.le_refl _) hr
    · have h1 := List.all_eq_true.1 hc t (List.mem_range.2 htlt)
      simp only [Bool.or_eq_true, decide_eq_true_eq] at h1
      rcases h1 with h1 | h1
      · omega
      · obtain ⟨o', ho', e, he, hb, hon⟩ := Region.waitsFor_spec h1
        have : o' = ot := Option.some.inj (ho'.symm.trans hot)
        subst this
        have h2 := hall e he hb
        rw [hon, getD_both (inv.tail (t - 1) (by omega) (by omega))] at h2
        cases h2
structure FloatOk (md : Region.Mode) (ops : Array Oper) (fl : List Nat) (clo : List (List Nat)) (n f : Nat) (o : Oper) : Prop where
  lt : f < n
  dep : ∀ e ∈ o.after, Region.binds md e = true → fl.contains e.on = false
  apart : ∀ j oj, ops[j]? = some oj → j ≠ f → j ∉ clo.getD f [] → (∀ e ∈ oj.after, Region.binds md e = true → e.on ≠ f) → o.apart ops oj = true
theorem floatB_spec {fl : List Nat} {clo : List (List Nat)} {f : Nat} {o : Oper} (ho : ops[f]? = some o) (h : floatB md ops fl clo n f = true) : FloatOk md ops fl clo n f o := by
  unfold floatB at h
  simp only [ho, Bool.and_eq_true, decide_eq_true_eq] at h
  obtain ⟨h1, h2, h3⟩ := h
  refine ⟨h1, fun e he hb => ?_, fun j oj hj hne hnc hno => ?_⟩
  · have h4 := Array.all_eq_true_iff_forall_mem.1 h2 e he
    rw [hb] at h4
    simpa using h4
  · have h4 := List.all_eq_true.1 h3 j (List.mem_range.2 (Array.getElem?_eq_some_iff.1 hj).1)
    simp only [hj, Bool.or_eq_true, beq_iff_eq, hne, false_or, List.contains_iff_mem, hnc] at h4
    rcases h4 with h4 | h4
    · obtain ⟨e, he, h5⟩ := Array.any_eq_true'.1 h4
      simp only [Bool.and_eq_true, beq_iff_eq] at h5
      exact absurd h5.2 (hno e he h5.1)
    · exact h4
theorem head_any {Q : Exit → Act → World → Prop} {E : Act → World → Prop} (hF : AllStable R.Dz R.ex R.F) (hWf : ∀ w w', R.Wf w → Grow w w' → R.Wf w') (hWt : ∀ w w', R.Wt w → Grow w w' → R.Wt w') (hZ : ∀ w w', R.Wf w → R.Dz w w' → R.Wt w') (hft : ∀ w, R.Wf w → R.Wt w) (hsel : Region.noSelect ops = true) (hn : n ≤ ops.size) (hN : a0.tmps.size = N) (ok : ∀ i o, i < n → ops[i]? = some o → MonoOp md ops (R.F.map (·.1)) R.clo N n i o) (hkeys : ∀ j ∈ R.F.map (·.1), j < n) (hzn : ∀ k, R.z = some k → k < n) (hzk : ∀ {k}, R.z = some k → (R.F.lookup k).isSome = true)
    (htail : n = ops.size ∨ (sinkF md ops R.fl n = true ∧ Region.chainB md ops n = true)) (hfl : ∀ f o, R.fl.contains f = true → ops[f]? = some o → FloatOk md ops R.fl R.clo n f o ∧ R.F.lookup f = none) (hQ : ∀ c a d v w, Q (.panic c) (Act.put a d v) w → Q (.panic c) a w)
    (hspec : ∀ xs : Nat → Gh, ∃ A : Act, A.defers = a0.defers ∧ A.tmps.size = N ∧ (∀ t, (∀ j, j < n → dstOf ops j ≠ some t) → A.tmps[t]? = a0.tmps[t]?) ∧ (∀ j o, j < n → ops[j]? = some o → OpSpec P ops R xs A j o) ∧ (∀ w, (if R.z = none then R.Wf w else R.Wt w) → HoldsL R.F xs w (R.z.isSome) (R.F.map (·.1)) → E A w))
    (hend : ∀ listed b w, HeadInv md ops n listed → (∀ i, i < n → listed.getD i false = true) → E b w → wpAny P md ops Q (ops.size - n) listed b w) :
    ∀ (f : Nat) (xs : Nat → Gh) (listed : Array Bool) (b : Act) (w : World), MonoInv P md ops R a0 n xs listed b w → cntU listed n = f → wpAny P md ops Q (f + (ops.size - n)) listed b w := by
  intro f
  induction f with
  | zero =>
    intro xs listed b w inv hc
    have hall := cntU_zero hc
    rw [Nat.zero_add]
    refine hend listed b w inv.hd hall ?_
    obtain ⟨A, h1, h2, h3, h4, h5⟩ := hspec xs
    have hag := agree hsel hn hN ok inv h2 h3 h4
    have hAb : A = b := by
      have ht : A.tmps = b.tmps := by
        apply Array.ext_getElem?
        intro t
        by_cases hx : ∃ j, j < n ∧ dstOf ops j = some t
        · obtain ⟨j, hj, hd⟩ := hx
          have h6 := hag j hj (hall j hj)
          rw [valOf_dst hd, valOf_dst hd] at h6
          obtain ⟨oj, hoj⟩ : ∃ oj, ops[j]? = some oj := ⟨ops[j]'(by omega), Array.getElem?_eq_getElem (by omega)⟩
          have hdj : oj.dst = some t := by simpa [dstOf, hoj] using hd
          have hlt := ((ok j oj hj hoj).dst t hdj).1
          have hbs : b.tmps.size = N := inv.sz.trans hN
          exact get_of_val (h2.trans hbs.symm) (by rw [hbs]; exact hlt) h6
        · exact inv_old inv h3 t fun j hj hd => hx ⟨j, hj, hd⟩
      have hd : A.defers = b.defers := h1.trans inv.df.symm
      cases A; cases b
      simp only at ht hd
      rw [ht, hd]
    subst hAb
    have hno : R.z = none → ∀ k, R.z = some k → listed.getD k false = false := fun h k hk => by rw [h] at hk; cases hk
    refine h5 w ?_ (holdsL_of fun j hj m hm hfo => ?_)
    · split
      · rename_i hz; exact inv.wf (hno hz)
      · rename_i hz; exact inv.wt hz
    · obtain ⟨oj, hoj⟩ : ∃ oj, ops[j]? = some oj := ⟨ops[j]'(by have := hkeys j hj; omega), Array.getElem?_eq_getElem (by have := hkeys j hj; omega)⟩
      have h6 := inv.op j oj (hkeys j hj) (hall j (hkeys j hj)) hoj
      simp only [hm] at h6
      refine h6.2 ?_
      cases hz : R.z with
      | none => exact .inr fun k hk => by cases hk
      | some k => exact .inl (hfo (by rw [hz]; rfl))
  | succ f ih =>
    intro xs listed b w inv hc
    obtain ⟨i0, hi0, hu0⟩ := cntU_pos (listed := listed) (m := n) (by omega)
    rw [show f + 1 + (ops.size - n) = (f + (ops.size - n)) + 1 by omega]
    by_cases hflt : ∃ f, R.fl.contains f = true ∧ f ∈ Region.ready md ops listed
    ·
      obtain ⟨f', hf1, hfr⟩ := hflt
      obtain ⟨hun, o, ho, hall⟩ := mem_ready.1 hfr
      obtain ⟨FO, hFn⟩ := hfl f' o hf1 ho
      have hi := FO.lt
      have hunf := getD_both hun
      have hcnt : cntU (listed.setIfInBounds f' true) n = f := by
        have := cntU_set (listed := listed) (i := f') (by rw [inv.hd.size]; omega) hunf n
        rw [if_pos hi] at this
        omega
      obtain ⟨A, h1, h2, h3, h4, h5⟩ := hspec xs
      have hag := agree hsel hn hN ok inv h2 h3 h4
      have hclo := clo_listed ok inv.hd hn f' o hi ho hall
      have hcn : ∀ j ∈ R.clo.getD f' [], j < n := fun j hj => by have := ((ok f' o hi ho).clo j hj).1; omega
      have hsame := op_same hsel ok hi ho h2 (inv.sz.trans hN) (inv_old inv h3) fun j hj => hag j (hcn j hj) (hclo j hj)
      have hs := h4 f' o hi ho
      have hdi : dstOf ops f' = o.dst := by simp [dstOf, ho]
      have hputv : ∀ v d, o.dst = some d → valOf ops (b.put o.dst v) f' = v := fun v d hd => by
        have hlt := ((ok f' o hi ho).dst d hd).1
        have hbs : d < b.tmps.size := by rw [inv.sz, hN]; exact hlt
        rw [valOf_dst (by rw [hdi, hd]), hd]
        simp [Act.put, hbs]
      unfold OpSpec at hs
      simp only [hFn] at hs
      obtain ⟨c, h6, h7⟩ := hs
      have hex : ∀ w1, Exact P ops w1 o c b := fun w1 => exact_congr hsame (h7 w1 (.inl hf1))
      have hni : R.D f' w w := by
        unfold Reg.D
        split
        · rename_i hz
          exact absurd hz (fun hz => by
            have := hzk hz
            rw [hFn] at this
            cases this)
        · exact Grow.refl w
      have hy : Yields P ops o c b := by
        rcases hex w with ⟨hw, _⟩ | ⟨hw, hv⟩
        · refine .inl ⟨hw, fun w1 => ?_⟩
          rcases hex w1 with ⟨_, h⟩ | ⟨h, _⟩
          · exact h
          · rw [hw] at h; cases h
        · exact .inr ⟨hw, hv⟩
      refine wpAny_first ho (fun j oj cs b hj => Region.noSelect_spec hsel j oj cs b hj) (fun c a w => hQ c a _ _ w) _ listed b w (fun j oj hj hne hunj hno => FO.apart j oj hj hne (fun hjc => ?_) hno) hfr hy (ih xs _ _ _ (inv_step hF hWf hWt hZ hsel hn hN ok inv hi ho hfr hni (fun _ _ => rfl) ?_) hcnt)
      · have := hclo j hjc
        rw [getD_both hunj] at this
        cases this
      · simp only [hFn]
        refine ⟨c, w, fun d hd => hputv c d (hdi ▸ hd), .inl hf1, exact_congr (exec_same (fun cs b => Region.noSelect_spec hsel f' o cs b ho) fun t ht => (put_get fun hd => ?_).symm) (hex w)⟩
        have h8 := (ok f' o hi ho).looks t ht f' hi (by rw [hdi, hd])
        have := ((ok f' o hi ho).clo f' h8).1
        omega
    refine ⟨fun h0 => absurd h0 (ready_ne ok hn inv.hd.size i0 hi0 hu0), fun i hr => ?_⟩
    have hi : i < n := by
      rcases Nat.lt_or_ge i n with h | h
      · exact h
      · rcases htail with ht | ⟨hs, hcn⟩
        · obtain ⟨_, o, ho, _⟩ := mem_ready.1 hr
          have := (Array.getElem?_eq_some_iff.1 ho).1
          omega
        · obtain ⟨_, o, ho, _⟩ := mem_ready.1 hr
          have hlt := (Array.getElem?_eq_some_iff.1 ho).1
          have hnofl : ∀ j, j < n → R.fl.contains j = false → listed.getD j false = true := fun j hj hjf => by
            cases hl : listed.getD j false with
            | true => rfl
            | false => exact absurd hr (tail_waitsF hs hcn (by omega) inv.hd _ j rfl hj hjf (getD_in (by rw [inv.hd.size]; omega) hl) i h)
          cases hf0 : R.fl.contains i0 with
          | false => have := hnofl i0 hi0 hf0; rw [hu0] at this; cases this
          | true =>
            obtain ⟨o0, ho0⟩ : ∃ o0, ops[i0]? = some o0 := ⟨ops[i0]'(by omega), Array.getElem?_eq_getElem (by omega)⟩
            obtain ⟨FO, _⟩ := hfl i0 o0 hf0 ho0
            refine absurd ⟨i0, hf0, mem_ready.2 ⟨getD_in (by rw [inv.hd.size]; omega) hu0, o0, ho0, fun e he hb => ?_⟩⟩ hflt
            have hlt0 := (ok i0 o0 hi0 ho0).back e he hb
            exact hnofl e.on (by omega) (FO.dep e he hb)
    obtain ⟨hun, o, ho, hall⟩ := mem_ready.1 hr
    have hunf := getD_both hun
    have hcnt : cntU (listed.setIfInBounds i true) n = f := by
      have := cntU_set (listed := listed) (i := i) (by rw [inv.hd.size]; omega) hunf n
      rw [if_pos hi] at this
      omega
    obtain ⟨A, h1, h2, h3, h4, h5⟩ := hspec xs
    have hag := agree hsel hn hN ok inv h2 h3 h4
    have hclo := clo_listed ok inv.hd hn i o hi ho hall
    have hcn : ∀ j ∈ R.clo.getD i [], j < n := fun j hj => by have := ((ok i o hi ho).clo j hj).1; omega
    have hsame := op_same hsel ok hi ho h2 (inv.sz.trans hN) (inv_old inv h3) fun j hj => hag j (hcn j hj) (hclo j hj)
    have hs := h4 i o hi ho
    have hdi : dstOf ops i = o.dst := by simp [dstOf, ho]
    have hputv : ∀ v d, o.dst = some d → valOf ops (b.put o.dst v) i = v := fun v d hd => by
      have hlt := ((ok i o hi ho).dst d hd).1
      have hbs : d < b.tmps.size := by rw [inv.sz, hN]; exact hlt
      rw [valOf_dst (by rw [hdi, hd]), hd]
      simp [Act.put, hbs]
    have hpz : pre R.z R.clo i = true → ∀ k, R.z = some k → listed.getD k false = false := fun hp k hk => by
      unfold pre at hp
      rw [hk] at hp
      simp only [Bool.or_eq_true, beq_iff_eq, List.contains_iff_mem] at hp
      rcases hp with hp | hp
      · rw [← hp]; exact hunf
      · cases hl : listed.getD k false with
        | false => rfl
        | true =>
          have hk' := hzn k hk
          obtain ⟨ok', hok⟩ : ∃ o', ops[k]? = some o' := ⟨ops[k]'(by omega), Array.getElem?_eq_getElem (by omega)⟩
          have := clo_listed ok inv.hd hn k ok' hk' hok (inv.hd.closed k ok' hok hl) i hp
          rw [hunf] at this
          cases this
    have hW : R.W i w := by
      unfold Reg.W
      split
      · rename_i hp; exact inv.wf (hpz hp)
      · rename_i hp
        refine inv.wt fun h => hp ?_
        unfold pre
        rw [h]
    have hH : R.H xs i w := holdsL_of fun j hj m hm hfo => by
      obtain ⟨oj, hoj⟩ : ∃ oj, ops[j]? = some oj := ⟨ops[j]'(by have := hcn j hj; omega), Array.getElem?_eq_getElem (by have := hcn j hj; omega)⟩
      have h6 := inv.op j oj (hcn j hj) (hclo j hj) hoj
      simp only [hm] at h6
      refine h6.2 ?_
      cases hp : pre R.z R.clo i with
      | true => exact .inr (hpz hp)
      | false => exact .inl (hfo (by rw [hp]; rfl))
    unfold OpSpec at hs
    cases hm : R.F.lookup i with
    | none =>
      simp only [hm] at hs
      obtain ⟨c, h6, h7⟩ := hs
      have hex := exact_congr hsame (h7 w (.inr ⟨hW, hH⟩))
      have hni : R.D i w w := by
        unfold Reg.D
        split
        · rename_i hz
          exact absurd hz (fun hz => by
            have := hzk hz
            rw [hm] at this
            cases this)
        · exact Grow.refl w
      refine wp_of_exact ho hex (ih xs _ _ _ (inv_step hF hWf hWt hZ hsel hn hN ok inv hi ho hr hni (fun _ _ => rfl) ?_) hcnt)
      simp only [hm]
      refine ⟨c, w, fun d hd => hputv c d (hdi ▸ hd), .inr ⟨hW, hH⟩, exact_congr (exec_same (fun cs b => Region.noSelect_spec hsel i o cs b ho) fun t ht => (put_get fun hd => ?_).symm) hex⟩
      have h8 := (ok i o hi ho).looks t ht i hi (by rw [hdi, hd])
      have := ((ok i o hi ho).clo i h8).1
      omega
    | some m =>
      simp only [hm] at hs
      obtain ⟨hw, hL⟩ := hs.2 w hW hH
      have hd : ∃ d, o.dst = some d := by
        cases hd : o.dst with
        | none => exact absurd (lookup_mem hm) ((ok i o hi ho).nodst hd)
        | some d => exact ⟨d, rfl⟩
      obtain ⟨d, hd⟩ := hd
      rw [hsame.1] at hL
      rw [hsame.2] at hw
      unfold wpOp
      simp only [ho, hw, if_true]
      refine .inl (wp_of_loudR hL fun v w' hv => ?_)
      obtain ⟨x, rfl, hD, hp⟩ := hv
      refine ih (fun j => if j = i then x else xs j) _ _ _ (inv_step hF hWf hWt hZ hsel hn hN ok inv hi ho hr hD (fun j hj => if_neg hj) ?_) hcnt
      simp only [hm, if_true]
      exact ⟨hputv _ d hd, hp⟩
end
theorem cntU_init (m k : Nat) : cntU (Array.replicate m false) k = k := by
  induction k with
  | zero => rfl
  | succ k ih => unfold cntU; rw [ih, getD_replicate_false]; simp
theorem wp_region_mono {id : Nat} {Q : Exit → Act → World → Prop} {a0 : Act} {w0 : World} {l : List Oper} (n : Nat) (R : Reg) (hm : P.follows .mixedOrders = true) (hB : Region.monoB .any l.toArray (R.F.map (·.1)) R.fl R.clo a0.tmps.size n = true) (hQ : ∀ c a d v w, Q (.panic c) (Act.put a d v) w → Q (.panic c) a w) (hz : (match R.z with | none => true | some k => (R.F.map (·.1)).contains k && (R.F.lookup k).isSome) = true)
    (hF : AllStable R.Dz R.ex R.F) (hWf : ∀ w w', R.Wf w → Grow w w' → R.Wf w') (hWt : ∀ w w', R.Wt w → Grow w w' → R.Wt w') (hZ : ∀ w w', R.Wf w → R.Dz w w' → R.Wt w') (hft : ∀ w, R.Wf w → R.Wt w) (h0 : R.Wf w0)
    (h : ∀ xs, MonoSeq P l.toArray R xs (fun a w => wpList P l.toArray Q (l.drop n) a w) 0 (l.take n) a0) : (Code.region id l.toArray true).wp P Q a0 w0 := by
  simp only [Region.monoB, Bool.and_eq_true, decide_eq_true_eq, Bool.or_eq_true] at hB
  obtain ⟨⟨⟨⟨⟨⟨hsel, hops⟩, hn⟩, htail⟩, hseq⟩, hkeys⟩, hfls⟩ := hB
  have ok : ∀ i o, i < n → l.toArray[i]? = some o → MonoOp .any l.toArray (R.F.map (·.1)) R.clo a0.tmps.size n i o := fun i o hi ho => monoOp_spec ho (List.all_eq_true.1 hops i (List.mem_range.2 hi))
  have hn' : n ≤ l.length := by simpa using hn
  have htl : (l.take n).length = n := by simp; omega
  have hdl : (l.drop n).length = l.toArray.size - n := by simp
  have hk2 : ∀ j ∈ R.F.map (·.1), j < n ∧ R.fl.contains j = false := fun j hj => by
    have := List.all_eq_true.1 hkeys j hj
    simp only [Bool.and_eq_true, decide_eq_true_eq, Bool.not_eq_true'] at this
    exact this
  have hk : ∀ j ∈ R.F.map (·.1), j < n := fun j hj => (hk2 j hj).1
  have hfl : ∀ f o, R.fl.contains f = true → l.toArray[f]? = some o → FloatOk .any l.toArray R.fl R.clo n f o ∧ R.F.lookup f = none := fun f o hf ho => by
    refine ⟨floatB_spec ho (List.all_eq_true.1 hfls f (by simpa using hf)), ?_⟩
    cases hm : R.F.lookup f with
    | none => rfl
    | some m =>
      have := (hk2 f (lookup_mem hm)).2
      rw [hf] at this
      cases this
  have hz1 : ∀ k, R.z = some k → k ∈ R.F.map (·.1) ∧ (R.F.lookup k).isSome = true := fun k hk => by
    rw [hk] at hz
    simp only [Bool.and_eq_true, List.contains_iff_mem] at hz
    exact hz
  have hg : Grow w0 { w0 with drawn := w0.drawn + 1 } := Below.drew (Below.refl _ _)
  refine wp_region_any hm ?_
  have key := head_any (P := P) (md := .any) (ops := l.toArray) (R := R) (a0 := a0) (N := a0.tmps.size) (n := n) (Q := Q) hF hWf hWt hZ hft hsel hn rfl ok hk (fun k hz => hk k (hz1 k hz).1) (fun hz => (hz1 _ hz).2) htail hfl hQ
    (fun xs => by
      obtain ⟨A, h1, h2, h3, h4, h5⟩ := spec_of_seq hsel ok (l.take n) 0 a0 (by simpa using htl) (fun k hk => by have hk' : k < n := by rw [htl] at hk; exact hk
                                                                                                                 simp [hk']) rfl (h xs)
      exact ⟨A, h1, h2, fun t ht => h3 t fun j _ hj => ht j hj, fun j o hj ho => h4 j o (Nat.zero_le _) hj ho, h5⟩)
    (fun listed b w hd hall hE => by
      have hl : listed = ((List.range l.toArray.size).map (fun i => decide (i < n))).toArray := by
        apply Array.ext_getElem?
        intro t
        rcases Nat.lt_or_ge t l.toArray.size with ht | ht
        · have hts : t < listed.size := by rw [hd.size]; exact ht
          rw [Array.getElem?_eq_getElem hts]
          rcases Nat.lt_or_ge t n with h1 | h1
          · have h2 := hall t h1
            have h3 : listed[t] = true := by simpa [Array.getD, hts] using h2
            rw [h3]
            have ht' : t < l.length := by simpa using ht
            simp [ht', h1]
          · have h2 := hd.tail t h1 ht
            have h3 : listed[t] = false := by simpa [Array.getD, hts] using h2
            rw [h3]
            have ht' : t < l.length := by simpa using ht
            simp [ht', h1]
        · rw [Array.getElem?_eq_none (by rw [hd.size]; exact ht), Array.getElem?_eq_none (by simpa using ht)]
      have h6 := wpAny_of_seq (md := .any) (Q' := Q) (l.drop n) n listed b w (fun j => by simp [List.getElem?_drop]) (by rw [hdl, hl]; exact hseq) hE
      rwa [hdl] at h6)
    n (fun _ => ⟨fun _ => undef, fun _ => 0⟩) (Array.replicate l.toArray.size false) a0 { w0 with drawn := w0.drawn + 1 }
    ⟨⟨by simp, fun j oj _ hl => (by rw [getD_replicate_false] at hl; cases hl), fun t _ ht => getD_in (by simpa using ht) (getD_replicate_false _ _)⟩, rfl, rfl, fun _ => hWf _ _ h0 hg, fun _ => hft _ (hWf _ _ h0 hg), fun _ _ => rfl, fun i o _ hl => by rw [getD_replicate_false] at hl; cases hl⟩ (cntU_init _ _)
  rw [show n + (l.toArray.size - n) = l.toArray.size by omega] at key
  exact key
end
end Go.Proofs.Ytdlmincaplbpgaa.Q
