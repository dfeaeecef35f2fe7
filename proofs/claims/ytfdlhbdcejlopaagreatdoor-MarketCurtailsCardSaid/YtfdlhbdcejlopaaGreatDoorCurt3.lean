/- MarketCurtails: the law returns true at every input, and each argument reads behind the call as it read before (condition: the listed tables of Go's library hold what the program's text lays), part 3 of 6. -/
import Derived.OrdersIn
import Derived.RangeFuncCalls
import Derived.TacticsIn
import Derived.RangeFuncNested
import Derived.RangeFuncBound
import Derived.RangeFuncLeaves
import Derived.RangeFuncFrom
import Derived.Shelf.Abstract
import Derived.WalkKit
import Derived.OwnWalkIn
import Derived.TacticsInMore
import Derived.LoopNIn
import Derived.LoopIn
import Derived.Stop.RegionWithIn
import Derived.Test.YtfdlhbdcejlopaaGreatDoorCurt2
namespace Go.Proofs.YtfdlhbdcejlopaaGreatDoor.B
open Go.RowKit Go.Proofs.YtfdlhbdcejlopaaGreatDoorW.PrintWords Go.Proofs.YtfdlhbdcejlopaaGreatDoorW.PrintLast Go.Proofs.YtfdlhbdcejlopaaGreatDoorW.PrintMore
attribute [local go_sem] max2_int min2_int max_two min_two
set_option linter.unusedVariables false
set_option linter.unusedSimpArgs false
/-! ### market_CheckPrices: function 27 -/
def market_CheckPrices.f (k : Nat) (a0_0 : Int) (a0_1 : Int) (a0_2 : Int) : Option (Int) := (market_checkPrice.f a0_0).bind fun t102 => ((market_checkPrice.f a0_1).bind fun t103 => ((market_checkPrice.f a0_2).bind fun t104 => (if a0_1 < a0_0 then ((market_when.f true 11).bind fun t105 => ((market_first.f k (([t102, t103, t104, t105] : List Int))).bind fun t109 => (some t109))) else ((market_when.f (decide (a0_2 < a0_1)) 11).bind fun t110 => ((market_first.f k (([t102, t103, t104, t110] : List Int))).bind fun t114 => (some t114))))))
def market_CheckPrices.T1 : Bool × List (List Nat × List Nat) := (true, [([], []), ([0], [0]), ([1], [1]), ([], []), ([3], [3]), ([4, 2], [4]), ([], []), ([6], [6]), ([7, 5], [7]), ([], []), ([9], [9]), ([], []), ([11], [11]), ([10, 12], [10, 12]), ([13, 8], [13]), ([14], [14]), ([15, 14], [14, 15]), ([14], [14]), ([17, 14], [14, 17]), ([16, 18, 14], [14, 16, 18]), ([14, 19], [14, 19]), ([20, 14], [20]), ([2, 5, 8, 21], [2, 5, 8, 21]), ([22, 21], [22]), ([23, 23, 0, 1, 2, 3, 4, 5, 6, 7, 8, 9, 10, 11, 12, 13, 14, 15, 16, 17, 18, 19, 20, 21, 22, 23], [23])])
def market_CheckPrices.B1 : List Nat := [0, 1, 3, 0, 8, 31, 0, 64, 255, 0, 512, 0, 2048, 7680, 16383, 32767, 65535, 32767, 163839, 524287, 1048575, 2097151, 4194303, 8388607, 16777215]
theorem market_CheckPrices.tab1 : rtab .any (opsOf Tryz.f27 1) = market_CheckPrices.T1 := by kernel_rfl
theorem market_CheckPrices.bits1 : waitsOk market_CheckPrices.T1.2 market_CheckPrices.B1 = true := by kernel_rfl
set_option maxHeartbeats 8000000 in
set_option maxRecDepth 100000 in
theorem market_CheckPrices.calls (k : Nat) (a0_0 : Int) (a0_1 : Int) (a0_2 : Int) (r : Int) (w : World) (h : market_CheckPrices.f k a0_0 a0_1 a0_2 = some r) :
  Calls Tryz.prog 27 #[.agg #[.int .i64 a0_0, .int .i64 a0_1, .int .i64 a0_2]] w fun e w' => e = .returned (.int .i64 r) ∧ Below w.heap.size w w' := by
 have hu31 := Tryz.underlying31
 have HB := Aside0.mk (Below.refl w.heap.size w)
 have H : ((market_checkPrice.f a0_0).bind fun t102 => ((market_checkPrice.f a0_1).bind fun t103 => ((market_checkPrice.f a0_2).bind fun t104 => (if a0_1 < a0_0 then ((market_when.f true 11).bind fun t105 => ((market_first.f k (([t102, t103, t104, t105] : List Int))).bind fun t109 => (some t109))) else ((market_when.f (decide (a0_2 < a0_1)) 11).bind fun t110 => ((market_first.f k (([t102, t103, t104, t110] : List Int))).bind fun t114 => (some t114))))))) = some r := h
 clear h
 replace H := Option.bind_eq_some_iff.mp H
 obtain ⟨t102, A20, H⟩ := H
 replace H : ((market_checkPrice.f a0_1).bind fun t103 => ((market_checkPrice.f a0_2).bind fun t104 => (if a0_1 < a0_0 then ((market_when.f true 11).bind fun t105 => ((market_first.f k (([t102, t103, t104, t105] : List Int))).bind fun t109 => (some t109))) else ((market_when.f (decide (a0_2 < a0_1)) 11).bind fun t110 => ((market_first.f k (([t102, t103, t104, t110] : List Int))).bind fun t114 => (some t114)))))) = some r := H
 have A2 := Aside0.mk A20
 clear A20
 replace H := Option.bind_eq_some_iff.mp H
 obtain ⟨t103, A30, H⟩ := H
 replace H : ((market_checkPrice.f a0_2).bind fun t104 => (if a0_1 < a0_0 then ((market_when.f true 11).bind fun t105 => ((market_first.f k (([t102, t103, t104, t105] : List Int))).bind fun t109 => (some t109))) else ((market_when.f (decide (a0_2 < a0_1)) 11).bind fun t110 => ((market_first.f k (([t102, t103, t104, t110] : List Int))).bind fun t114 => (some t114))))) = some r := H
 have A3 := Aside0.mk A30
 clear A30
 replace H := Option.bind_eq_some_iff.mp H
 obtain ⟨t104, A40, H⟩ := H
 replace H : (if a0_1 < a0_0 then ((market_when.f true 11).bind fun t105 => ((market_first.f k (([t102, t103, t104, t105] : List Int))).bind fun t109 => (some t109))) else ((market_when.f (decide (a0_2 < a0_1)) 11).bind fun t110 => ((market_first.f k (([t102, t103, t104, t110] : List Int))).bind fun t114 => (some t114)))) = some r := H
 have A4 := Aside0.mk A40
 clear A40
 by_cases c5 : a0_1 < a0_0
 ·rw [if_pos c5] at H
  have c5b0 : decide (a0_1 < a0_0) = true := decide_eq_true c5
  clear c5
  replace H := Option.bind_eq_some_iff.mp H
  obtain ⟨t105, A60, H⟩ := H
  replace H : ((market_first.f k (([t102, t103, t104, t105] : List Int))).bind fun t109 => (some t109)) = some r := H
  have A6 := Aside0.mk A60
  clear A60
  obtain ⟨y106, hy106⟩ : ∃ y_ : List Int, y_ = (([t102, t103, t104, t105] : List Int)) := ⟨_, rfl⟩
  replace H : ((market_first.f k y106).bind fun t109 => (some t109)) = some r := by first | (rw [hy106]; with_reducible exact H) | (have H2_ := (Option.bind_some _ _).symm.trans H; rw [hy106]; with_reducible exact H2_) | (have H2_ := (Option.bind_some _ _).symm.trans H; with_reducible exact H2_) | with_reducible exact H | (rw [hy106]; exact H) | exact H
  have Ny106 := Aside0.mk hy106
  clear hy106
  replace H := Option.bind_eq_some_iff.mp H
  obtain ⟨t109, A70, H⟩ := H
  replace H : (some t109) = some r := H
  have A7 := Aside0.mk A70
  clear A70
  obtain rfl := Option.some.inj H
  go_enter Tryz.func27, Tryz.ntmps27
  try go_wp2_with (first | ((with_reducible refine gate_dst (N := 1) rfl ?_); refine box_event ?hg (N := 1) ?hd (cs := #[.int .i64 a0_0, .int .i64 a0_1, .int .i64 a0_2]) (t := 31) ?hr ?_; (case hd => rfl); (case hg => rfl); (case hr => first | (go_simp; done) | (go_simp; rfl)); intro gb101 hg w8 hbox hb; have n0_ := Aside0.mk (below_step (ws_ HB.out) hb); have n1_ := Aside0.mk (hbox); have n2_ := Aside0.mk ((by rw [hg]; exact (below_size (ws_ HB.out)) : w.heap.size ≤ gb101)); have n3_ := Aside0.mk ((by rw [hg]; exact (below_size (ws_ HB.out)) : w.heap.size ≤ gb101)); clear HB; have HB := n0_; have BK101 := n1_; have GW101 := n2_; have GE101 := n3_; clear n0_ n1_ n2_ n3_; clear hb hbox hg))
  have n0_ := Aside0.mk (blk_drew BK101.out)
  have n1_ := Aside0.mk (below_drew1 HB.out)
  clear BK101
  clear HB
  have BK101 := n0_
  have HB := n1_
  clear n0_ n1_
  refine start_ (n := 25) (S := fun w' => w'.cell? ⟨gb101, 0, none⟩ = some (.int .i64 a0_0) ∧ w'.cell? ⟨gb101, 1, none⟩ = some (.int .i64 a0_1) ∧ w'.cell? ⟨gb101, 2, none⟩ = some (.int .i64 a0_2)) (ds := []) #[false, false, false, false, false, false, false, false, false, false, false, false, false, false, false, false, false, false, false, false, false, false, false, false, false] (by kernel_rfl) rfl rfl ⟨(blk_cell BK101.out 0).trans rfl, (blk_cell BK101.out 1).trans rfl, (blk_cell BK101.out 2).trans rfl⟩ (fun hHeld => ?_); refine with_tabW market_CheckPrices.tab1 market_CheckPrices.bits1 (fun HT_ HW_ => ?_)
  generalize w8.drew = w9 at BK101 HB hHeld ⊢
  refine pv_ 0 3 #[true, false, false, false, false, false, false, false, false, false, false, false, false, false, false, false, false, false, false, false, false, false, false, false, false] (any_of HT_.out (by kernel_rfl)) ?_
  refine pv_ 3 6 #[true, false, false, true, false, false, false, false, false, false, false, false, false, false, false, false, false, false, false, false, false, false, false, false, false] (any_of HT_.out (by kernel_rfl)) ?_
  refine pv_ 6 9 #[true, false, false, true, false, false, true, false, false, false, false, false, false, false, false, false, false, false, false, false, false, false, false, false, false] (any_of HT_.out (by kernel_rfl)) ?_
  refine pv_ 9 12 #[true, false, false, true, false, false, true, false, false, true, false, false, false, false, false, false, false, false, false, false, false, false, false, false, false] (any_of HT_.out (by kernel_rfl)) ?_
  refine pv_ 11 14 #[true, false, false, true, false, false, true, false, false, true, false, true, false, false, false, false, false, false, false, false, false, false, false, false, false] (any_of HT_.out (by kernel_rfl)) ?_
  refine take_ (i := 1) (N := some 4) (v := ?_) (a' := ?_) #[true, true, false, true, false, false, true, false, false, true, false, true, false, false, false, false, false, false, false, false, false, false, false, false, false] rfl rfl (take_ofW HT_.out HW_.out (by kernel_rfl)) (fun _ _ _ h => h) (Or.inl ⟨by rfl, ?_⟩) hHeld ?_ ?_
  rotate_left
  ·rintro w' ⟨s0, s1, s2⟩
   go_simp
   with_reducible rfl
  rotate_left
  ·simp only [Act.put, List.setIfInBounds_toArray, List.set_cons_zero, List.set_cons_succ, i64_w, i32_w]
   rfl
  refine take_ (i := 4) (N := some 7) (v := ?_) (a' := ?_) #[true, true, false, true, true, false, true, false, false, true, false, true, false, false, false, false, false, false, false, false, false, false, false, false, false] rfl rfl (take_ofW HT_.out HW_.out (by kernel_rfl)) (fun _ _ _ h => h) (Or.inl ⟨by rfl, ?_⟩) hHeld ?_ ?_
  rotate_left
  ·rintro w' ⟨s0, s1, s2⟩
   go_simp
   with_reducible rfl
  rotate_left
  ·simp only [Act.put, List.setIfInBounds_toArray, List.set_cons_zero, List.set_cons_succ, i64_w, i32_w]
   rfl
  refine take_ (i := 7) (N := some 10) (v := ?_) (a' := ?_) #[true, true, false, true, true, false, true, true, false, true, false, true, false, false, false, false, false, false, false, false, false, false, false, false, false] rfl rfl (take_ofW HT_.out HW_.out (by kernel_rfl)) (fun _ _ _ h => h) (Or.inl ⟨by rfl, ?_⟩) hHeld ?_ ?_
  rotate_left
  ·rintro w' ⟨s0, s1, s2⟩
   go_simp
   with_reducible rfl
  rotate_left
  ·simp only [Act.put, List.setIfInBounds_toArray, List.set_cons_zero, List.set_cons_succ, i64_w, i32_w]
   rfl
  refine take_ (i := 10) (N := some 13) (v := ?_) (a' := ?_) #[true, true, false, true, true, false, true, true, false, true, true, true, false, false, false, false, false, false, false, false, false, false, false, false, false] rfl rfl (take_ofW HT_.out HW_.out (by kernel_rfl)) (fun _ _ _ h => h) (Or.inl ⟨by rfl, ?_⟩) hHeld ?_ ?_
  rotate_left
  ·rintro w' ⟨s0, s1, s2⟩
   go_simp
   with_reducible rfl
  rotate_left
  ·simp only [Act.put, List.setIfInBounds_toArray, List.set_cons_zero, List.set_cons_succ, i64_w, i32_w]
   rfl
  refine take_ (i := 12) (N := some 15) (v := ?_) (a' := ?_) #[true, true, false, true, true, false, true, true, false, true, true, true, true, false, false, false, false, false, false, false, false, false, false, false, false] rfl rfl (take_ofW HT_.out HW_.out (by kernel_rfl)) (fun _ _ _ h => h) (Or.inl ⟨by rfl, ?_⟩) hHeld ?_ ?_
  rotate_left
  ·rintro w' ⟨s0, s1, s2⟩
   go_simp
   with_reducible rfl
  rotate_left
  ·simp only [Act.put, List.setIfInBounds_toArray, List.set_cons_zero, List.set_cons_succ, i64_w, i32_w]
   rfl
  refine pv_ 13 16 #[true, true, false, true, true, false, true, true, false, true, true, true, true, true, false, false, false, false, false, false, false, false, false, false, false] (any_of HT_.out (by kernel_rfl)) ?_
  refine one_ (i := 2) (N := some 5) #[true, true, true, true, true, false, true, true, false, true, true, true, true, true, false, false, false, false, false, false, false, false, false, false, false] rfl rfl (one_of HT_.out (by kernel_rfl)) (by decide) (fun K hK => ?_)
  refine goes_ Tryz.func93 (by kernel_rfl) rfl #[.int .i64 a0_0] (by rfl) rfl rfl (by (try simp only [List.map_toArray, List.map_cons, List.map_nil]); first | done | rfl | (simp only [List.length_drop, List.length_take]; rfl)) ?_
  with_reducible refine (market_checkPrice.calls a0_0 t102 _ A2.out).mono ?_
  rintro e w' ⟨rfl, ⟨nd, rfl⟩⟩
  refine ⟨_, rfl, ?_⟩
  refine hK.out _ _ ⟨(blk_cell BK101.out 0).trans rfl, (blk_cell BK101.out 1).trans rfl, (blk_cell BK101.out 2).trans rfl⟩ (fun hHeld => ?_)
  clear hK K
  refine norm_ (a' := ?_) ?_ ?_
  rotate_left
  ·show Act.put _ (some 5) _ = _
   simp only [Act.put, List.setIfInBounds_toArray, List.set_cons_zero, List.set_cons_succ, i64_w, i32_w]
   rfl
  refine one_ (i := 5) (N := some 8) #[true, true, true, true, true, true, true, true, false, true, true, true, true, true, false, false, false, false, false, false, false, false, false, false, false] rfl rfl (one_of HT_.out (by kernel_rfl)) (by decide) (fun K hK => ?_)
  refine goes_ Tryz.func93 (by kernel_rfl) rfl #[.int .i64 a0_1] (by rfl) rfl rfl (by (try simp only [List.map_toArray, List.map_cons, List.map_nil]); first | done | rfl | (simp only [List.length_drop, List.length_take]; rfl)) ?_
  with_reducible refine (market_checkPrice.calls a0_1 t103 _ A3.out).mono ?_
  rintro e w' ⟨rfl, ⟨nd, rfl⟩⟩
  refine ⟨_, rfl, ?_⟩
  refine hK.out _ _ ⟨(blk_cell BK101.out 0).trans rfl, (blk_cell BK101.out 1).trans rfl, (blk_cell BK101.out 2).trans rfl⟩ (fun hHeld => ?_)
  clear hK K
  refine norm_ (a' := ?_) ?_ ?_
  rotate_left
  ·show Act.put _ (some 8) _ = _
   simp only [Act.put, List.setIfInBounds_toArray, List.set_cons_zero, List.set_cons_succ, i64_w, i32_w]
   rfl
  refine one_ (i := 8) (N := some 11) #[true, true, true, true, true, true, true, true, true, true, true, true, true, true, false, false, false, false, false, false, false, false, false, false, false] rfl rfl (one_of HT_.out (by kernel_rfl)) (by decide) (fun K hK => ?_)
  refine goes_ Tryz.func93 (by kernel_rfl) rfl #[.int .i64 a0_2] (by rfl) rfl rfl (by (try simp only [List.map_toArray, List.map_cons, List.map_nil]); first | done | rfl | (simp only [List.length_drop, List.length_take]; rfl)) ?_
  with_reducible refine (market_checkPrice.calls a0_2 t104 _ A4.out).mono ?_
  rintro e w' ⟨rfl, ⟨nd, rfl⟩⟩
  refine ⟨_, rfl, ?_⟩
  refine hK.out _ _ ⟨(blk_cell BK101.out 0).trans rfl, (blk_cell BK101.out 1).trans rfl, (blk_cell BK101.out 2).trans rfl⟩ (fun hHeld => ?_)
  clear hK K
  refine norm_ (a' := ?_) ?_ ?_
  rotate_left
  ·show Act.put _ (some 11) _ = _
   simp only [Act.put, List.setIfInBounds_toArray, List.set_cons_zero, List.set_cons_succ, i64_w, i32_w]
   rfl
  refine pv_ 14 17 #[true, true, true, true, true, true, true, true, true, true, true, true, true, true, true, false, false, false, false, false, false, false, false, false, false] (any_of HT_.out (by kernel_rfl)) ?_
  refine pure_ (i := 15) (N := some 18) (v := undef) (a' := ?_) #[true, true, true, true, true, true, true, true, true, true, true, true, true, true, true, true, false, false, false, false, false, false, false, false, false] rfl rfl (any_of HT_.out (by kernel_rfl)) (fun _ _ _ h => h) (Or.inr ⟨by rfl, rfl⟩) ?_ ?_
  rotate_left
  ·simp only [Act.put, List.setIfInBounds_toArray, List.set_cons_zero, List.set_cons_succ, i64_w, i32_w]
   rfl
  refine pure_ (i := 16) (N := some 19) (v := undef) (a' := ?_) #[true, true, true, true, true, true, true, true, true, true, true, true, true, true, true, true, true, false, false, false, false, false, false, false, false] rfl rfl (any_of HT_.out (by kernel_rfl)) (fun _ _ _ h => h) (Or.inr ⟨by rfl, rfl⟩) ?_ ?_
  rotate_left
  ·simp only [Act.put, List.setIfInBounds_toArray, List.set_cons_zero, List.set_cons_succ, i64_w, i32_w]
   rfl
  refine pure_ (i := 17) (N := some 20) (v := undef) (a' := ?_) #[true, true, true, true, true, true, true, true, true, true, true, true, true, true, true, true, true, true, false, false, false, false, false, false, false] rfl rfl (any_of HT_.out (by kernel_rfl)) (fun _ _ _ h => h) (Or.inr ⟨by rfl, rfl⟩) ?_ ?_
  rotate_left
  ·simp only [Act.put, List.setIfInBounds_toArray, List.set_cons_zero, List.set_cons_succ, i64_w, i32_w]
   rfl
  refine pure_ (i := 18) (N := some 21) (v := undef) (a' := ?_) #[true, true, true, true, true, true, true, true, true, true, true, true, true, true, true, true, true, true, true, false, false, false, false, false, false] rfl rfl (any_of HT_.out (by kernel_rfl)) (fun _ _ _ h => h) (Or.inr ⟨by rfl, rfl⟩) ?_ ?_
  rotate_left
  ·simp only [Act.put, List.setIfInBounds_toArray, List.set_cons_zero, List.set_cons_succ, i64_w, i32_w]
   rfl
  refine pure_ (i := 19) (N := some 22) (v := undef) (a' := ?_) #[true, true, true, true, true, true, true, true, true, true, true, true, true, true, true, true, true, true, true, true, false, false, false, false, false] rfl rfl (any_of HT_.out (by kernel_rfl)) (fun _ _ _ h => h) (Or.inr ⟨by rfl, rfl⟩) ?_ ?_
  rotate_left
  ·simp only [Act.put, List.setIfInBounds_toArray, List.set_cons_zero, List.set_cons_succ, i64_w, i32_w]
   rfl
  refine pv_ 20 23 #[true, true, true, true, true, true, true, true, true, true, true, true, true, true, true, true, true, true, true, true, true, false, false, false, false] (any_of HT_.out (by kernel_rfl)) ?_
  refine one_ (i := 21) (N := some 24) #[true, true, true, true, true, true, true, true, true, true, true, true, true, true, true, true, true, true, true, true, true, true, false, false, false] rfl rfl (one_of HT_.out (by kernel_rfl)) (by decide) (fun K hK => ?_)
  refine goes_ Tryz.func90 (by kernel_rfl) rfl #[.bool true, .int .i64 11] (by rfl) rfl rfl (by (try simp only [List.map_toArray, List.map_cons, List.map_nil]); first | done | rfl | (simp only [List.length_drop, List.length_take]; rfl)) ?_
  with_reducible refine (market_when.calls true 11 t105 _ A6.out).mono ?_
  rintro e w' ⟨rfl, ⟨nd, rfl⟩⟩
  refine ⟨_, rfl, ?_⟩
  refine hK.out _ _ ⟨(blk_cell BK101.out 0).trans rfl, (blk_cell BK101.out 1).trans rfl, (blk_cell BK101.out 2).trans rfl⟩ (fun hHeld => ?_)
  clear hK K
  refine norm_ (a' := ?_) ?_ ?_
  rotate_left
  ·show Act.put _ (some 24) _ = _
   simp only [Act.put, List.setIfInBounds_toArray, List.set_cons_zero, List.set_cons_succ, i64_w, i32_w]
   rfl
  refine one_ (i := 22) (N := some 25) #[true, true, true, true, true, true, true, true, true, true, true, true, true, true, true, true, true, true, true, true, true, true, true, false, false] rfl rfl (one_of HT_.out (by kernel_rfl)) (by decide) (fun K hK => ?_)
  refine Kd.R_lit_step (Kd.int .i64) _ 28 ?hg (N := 25) ?hd (xs := ([t102, t103, t104, t105] : List Int)) (inner := [.int .i64 t102, .int .i64 t103, .int .i64 t104, .int .i64 t105]) (ok := fun _ => True) (okp := fun _ => True) ?hr ?hp (fun _ hk => hk) trivial (Below.refl _ _) (Nat.le_refl _) (by simp) ?_; (case hd => rfl); (case hg => rfl); (case hr => first | (go_simp; done) | (go_simp; rfl)); (case hp => exact (Reps.one (show Kd.M (Kd.int .i64) _ _ _ t102 [.int .i64 t102] from rfl) (Reps.one (show Kd.M (Kd.int .i64) _ _ _ t103 [.int .i64 t103] from rfl) (Reps.one (show Kd.M (Kd.int .i64) _ _ _ t104 [.int .i64 t104] from rfl) (Reps.one (show Kd.M (Kd.int .i64) _ _ _ t105 [.int .i64 t105] from rfl) (Reps.none _ _))))))
  intro v107 w10 ho11 hb hg_ hnew_
  clear hg_ hnew_
  (first | rw [← Ny106.out] at ho11 | (simp only [Int.reduceToNat] at ho11; rw [← Ny106.out] at ho11))
  have n0_ := Aside0.mk (Kd.R_lower ho11 (below_size (wg_ HB.out GE101.out)))
  have n1_ := Aside0.mk (blk_below (g := gb101) (o := .cells #[.int .i64 a0_0, .int .i64 a0_1, .int .i64 a0_2] 31 (0, 0)) (bs_ BK101.out) hb)
  have n2_ := Aside0.mk (below_step (wg_ HB.out GE101.out) hb)
  clear BK101
  clear HB
  have HO108 := n0_
  have BK101 := n1_
  have HB := n2_
  clear n0_ n1_ n2_
  clear hb ho11
  obtain ⟨Ao12, co12, eo12⟩ := Kd.R_slice HO108.out
  (first | subst eo12 | (injection eo12 with f1_ f2_ f3_; have f4_ := f1_.symm; have f5_ := f3_.symm; clear f1_ f2_ f3_; subst f4_; subst f5_))
  refine hK.out _ _ ⟨(blk_cell BK101.out 0).trans rfl, (blk_cell BK101.out 1).trans rfl, (blk_cell BK101.out 2).trans rfl⟩ (fun hHeld => ?_)
  clear hK K
  refine norm_ (a' := ?_) ?_ ?_
  rotate_left
  ·show Act.put _ (some 25) _ = _
   simp only [Act.put, List.setIfInBounds_toArray, List.set_cons_zero, List.set_cons_succ, i64_w, i32_w]
   rfl
  refine one_ (i := 23) (N := some 26) #[true, true, true, true, true, true, true, true, true, true, true, true, true, true, true, true, true, true, true, true, true, true, true, true, false] rfl rfl (one_of HT_.out (by kernel_rfl)) (by decide) (fun K hK => ?_)
  refine goes_ Tryz.func85 (by kernel_rfl) rfl #[.slice Ao12 y106.length co12] (by rfl) rfl rfl (by (try simp only [List.map_toArray, List.map_cons, List.map_nil]); first | done | rfl | (simp only [List.length_drop, List.length_take]; rfl)) ?_
  with_reducible refine (market_first.calls k _ _ y106 t109 _ ?side1 ?side2 A7.out).mono ?_
  (case side1 => repeat (first | exact (Kd.R_reads' HO108.out).2.2 | (with_reducible refine Kd.C_alloc ?_ _) | (with_reducible refine Kd.C_drewN ?_ _) | (with_reducible refine Kd.C_drew ?_)))
  (case side2 => exact (Kd.R_reads' HO108.out).2.1)
  rintro e w' ⟨rfl, ⟨nd, rfl⟩⟩
  refine ⟨_, rfl, ?_⟩
  refine hK.out _ _ ⟨(blk_cell BK101.out 0).trans rfl, (blk_cell BK101.out 1).trans rfl, (blk_cell BK101.out 2).trans rfl⟩ (fun hHeld => ?_)
  clear hK K
  refine norm_ (a' := ?_) ?_ ?_
  rotate_left
  ·show Act.put _ (some 26) _ = _
   simp only [Act.put, List.setIfInBounds_toArray, List.set_cons_zero, List.set_cons_succ, i64_w, i32_w]
   rfl
  refine pv_ 24 2 #[true, true, true, true, true, true, true, true, true, true, true, true, true, true, true, true, true, true, true, true, true, true, true, true, true] (any_of HT_.out (by kernel_rfl)) ?_
  refine done_ (done_of HT_.out (by kernel_rfl)) ?_
  try go_wp2
  go_ret
  exact ⟨by first | rfl | (simp [errW_none, errW_some] <;> rfl) | (simp [*, errW_none, errW_some] <;> rfl), by repeat (first | (with_reducible first | exact HB.out | apply below_alloc | apply pw_below_drewN | apply below_drew1 | refine below_set ?_ GE101.out) | exact HB.out)⟩
 ·rw [if_neg c5] at H
  have c5b0 : decide (a0_1 < a0_0) = false := decide_eq_false c5
  clear c5
  replace H := Option.bind_eq_some_iff.mp H
  obtain ⟨t110, A130, H⟩ := H
  replace H : ((market_first.f k (([t102, t103, t104, t110] : List Int))).bind fun t114 => (some t114)) = some r := H
  have A13 := Aside0.mk A130
  clear A130
  obtain ⟨y111, hy111⟩ : ∃ y_ : List Int, y_ = (([t102, t103, t104, t110] : List Int)) := ⟨_, rfl⟩
  replace H : ((market_first.f k y111).bind fun t114 => (some t114)) = some r := by first | (rw [hy111]; with_reducible exact H) | (have H2_ := (Option.bind_some _ _).symm.trans H; rw [hy111]; with_reducible exact H2_) | (have H2_ := (Option.bind_some _ _).symm.trans H; with_reducible exact H2_) | with_reducible exact H | (rw [hy111]; exact H) | exact H
  have Ny111 := Aside0.mk hy111
  clear hy111
  replace H := Option.bind_eq_some_iff.mp H
  obtain ⟨t114, A140, H⟩ := H
  replace H : (some t114) = some r := H
  have A14 := Aside0.mk A140
  clear A140
  obtain rfl := Option.some.inj H
  go_enter Tryz.func27, Tryz.ntmps27
  try go_wp2_with (first | ((with_reducible refine gate_dst (N := 1) rfl ?_); refine box_event ?hg (N := 1) ?hd (cs := #[.int .i64 a0_0, .int .i64 a0_1, .int .i64 a0_2]) (t := 31) ?hr ?_; (case hd => rfl); (case hg => rfl); (case hr => first | (go_simp; done) | (go_simp; rfl)); intro gb101 hg w15 hbox hb; have n0_ := Aside0.mk (below_step (ws_ HB.out) hb); have n1_ := Aside0.mk (hbox); have n2_ := Aside0.mk ((by rw [hg]; exact (below_size (ws_ HB.out)) : w.heap.size ≤ gb101)); have n3_ := Aside0.mk ((by rw [hg]; exact (below_size (ws_ HB.out)) : w.heap.size ≤ gb101)); clear HB; have HB := n0_; have BK101 := n1_; have GW101 := n2_; have GE101 := n3_; clear n0_ n1_ n2_ n3_; clear hb hbox hg))
  have n0_ := Aside0.mk (blk_drew BK101.out)
  have n1_ := Aside0.mk (below_drew1 HB.out)
  clear BK101
  clear HB
  have BK101 := n0_
  have HB := n1_
  clear n0_ n1_
  refine start_ (n := 25) (S := fun w' => w'.cell? ⟨gb101, 0, none⟩ = some (.int .i64 a0_0) ∧ w'.cell? ⟨gb101, 1, none⟩ = some (.int .i64 a0_1) ∧ w'.cell? ⟨gb101, 2, none⟩ = some (.int .i64 a0_2)) (ds := []) #[false, false, false, false, false, false, false, false, false, false, false, false, false, false, false, false, false, false, false, false, false, false, false, false, false] (by kernel_rfl) rfl rfl ⟨(blk_cell BK101.out 0).trans rfl, (blk_cell BK101.out 1).trans rfl, (blk_cell BK101.out 2).trans rfl⟩ (fun hHeld => ?_); refine with_tabW market_CheckPrices.tab1 market_CheckPrices.bits1 (fun HT_ HW_ => ?_)
  generalize w15.drew = w16 at BK101 HB hHeld ⊢
  refine pv_ 0 3 #[true, false, false, false, false, false, false, false, false, false, false, false, false, false, false, false, false, false, false, false, false, false, false, false, false] (any_of HT_.out (by kernel_rfl)) ?_
  refine pv_ 3 6 #[true, false, false, true, false, false, false, false, false, false, false, false, false, false, false, false, false, false, false, false, false, false, false, false, false] (any_of HT_.out (by kernel_rfl)) ?_
  refine pv_ 6 9 #[true, false, false, true, false, false, true, false, false, false, false, false, false, false, false, false, false, false, false, false, false, false, false, false, false] (any_of HT_.out (by kernel_rfl)) ?_
  refine pv_ 9 12 #[true, false, false, true, false, false, true, false, false, true, false, false, false, false, false, false, false, false, false, false, false, false, false, false, false] (any_of HT_.out (by kernel_rfl)) ?_
  refine pv_ 11 14 #[true, false, false, true, false, false, true, false, false, true, false, true, false, false, false, false, false, false, false, false, false, false, false, false, false] (any_of HT_.out (by kernel_rfl)) ?_
  refine take_ (i := 1) (N := some 4) (v := ?_) (a' := ?_) #[true, true, false, true, false, false, true, false, false, true, false, true, false, false, false, false, false, false, false, false, false, false, false, false, false] rfl rfl (take_ofW HT_.out HW_.out (by kernel_rfl)) (fun _ _ _ h => h) (Or.inl ⟨by rfl, ?_⟩) hHeld ?_ ?_
  rotate_left
  ·rintro w' ⟨s0, s1, s2⟩
   go_simp
   with_reducible rfl
  rotate_left
  ·simp only [Act.put, List.setIfInBounds_toArray, List.set_cons_zero, List.set_cons_succ, i64_w, i32_w]
   rfl
  refine take_ (i := 4) (N := some 7) (v := ?_) (a' := ?_) #[true, true, false, true, true, false, true, false, false, true, false, true, false, false, false, false, false, false, false, false, false, false, false, false, false] rfl rfl (take_ofW HT_.out HW_.out (by kernel_rfl)) (fun _ _ _ h => h) (Or.inl ⟨by rfl, ?_⟩) hHeld ?_ ?_
  rotate_left
  ·rintro w' ⟨s0, s1, s2⟩
   go_simp
   with_reducible rfl
  rotate_left
  ·simp only [Act.put, List.setIfInBounds_toArray, List.set_cons_zero, List.set_cons_succ, i64_w, i32_w]
   rfl
  refine take_ (i := 7) (N := some 10) (v := ?_) (a' := ?_) #[true, true, false, true, true, false, true, true, false, true, false, true, false, false, false, false, false, false, false, false, false, false, false, false, false] rfl rfl (take_ofW HT_.out HW_.out (by kernel_rfl)) (fun _ _ _ h => h) (Or.inl ⟨by rfl, ?_⟩) hHeld ?_ ?_
  rotate_left
  ·rintro w' ⟨s0, s1, s2⟩
   go_simp
   with_reducible rfl
  rotate_left
  ·simp only [Act.put, List.setIfInBounds_toArray, List.set_cons_zero, List.set_cons_succ, i64_w, i32_w]
   rfl
  refine take_ (i := 10) (N := some 13) (v := ?_) (a' := ?_) #[true, true, false, true, true, false, true, true, false, true, true, true, false, false, false, false, false, false, false, false, false, false, false, false, false] rfl rfl (take_ofW HT_.out HW_.out (by kernel_rfl)) (fun _ _ _ h => h) (Or.inl ⟨by rfl, ?_⟩) hHeld ?_ ?_
  rotate_left
  ·rintro w' ⟨s0, s1, s2⟩
   go_simp
   with_reducible rfl
  rotate_left
  ·simp only [Act.put, List.setIfInBounds_toArray, List.set_cons_zero, List.set_cons_succ, i64_w, i32_w]
   rfl
  refine take_ (i := 12) (N := some 15) (v := ?_) (a' := ?_) #[true, true, false, true, true, false, true, true, false, true, true, true, true, false, false, false, false, false, false, false, false, false, false, false, false] rfl rfl (take_ofW HT_.out HW_.out (by kernel_rfl)) (fun _ _ _ h => h) (Or.inl ⟨by rfl, ?_⟩) hHeld ?_ ?_
  rotate_left
  ·rintro w' ⟨s0, s1, s2⟩
   go_simp
   with_reducible rfl
  rotate_left
  ·simp only [Act.put, List.setIfInBounds_toArray, List.set_cons_zero, List.set_cons_succ, i64_w, i32_w]
   rfl
  refine pv_ 13 16 #[true, true, false, true, true, false, true, true, false, true, true, true, true, true, false, false, false, false, false, false, false, false, false, false, false] (any_of HT_.out (by kernel_rfl)) ?_
  refine one_ (i := 2) (N := some 5) #[true, true, true, true, true, false, true, true, false, true, true, true, true, true, false, false, false, false, false, false, false, false, false, false, false] rfl rfl (one_of HT_.out (by kernel_rfl)) (by decide) (fun K hK => ?_)
  refine goes_ Tryz.func93 (by kernel_rfl) rfl #[.int .i64 a0_0] (by rfl) rfl rfl (by (try simp only [List.map_toArray, List.map_cons, List.map_nil]); first | done | rfl | (simp only [List.length_drop, List.length_take]; rfl)) ?_
  with_reducible refine (market_checkPrice.calls a0_0 t102 _ A2.out).mono ?_
  rintro e w' ⟨rfl, ⟨nd, rfl⟩⟩
  refine ⟨_, rfl, ?_⟩
  refine hK.out _ _ ⟨(blk_cell BK101.out 0).trans rfl, (blk_cell BK101.out 1).trans rfl, (blk_cell BK101.out 2).trans rfl⟩ (fun hHeld => ?_)
  clear hK K
  refine norm_ (a' := ?_) ?_ ?_
  rotate_left
  ·show Act.put _ (some 5) _ = _
   simp only [Act.put, List.setIfInBounds_toArray, List.set_cons_zero, List.set_cons_succ, i64_w, i32_w]
   rfl
  refine one_ (i := 5) (N := some 8) #[true, true, true, true, true, true, true, true, false, true, true, true, true, true, false, false, false, false, false, false, false, false, false, false, false] rfl rfl (one_of HT_.out (by kernel_rfl)) (by decide) (fun K hK => ?_)
  refine goes_ Tryz.func93 (by kernel_rfl) rfl #[.int .i64 a0_1] (by rfl) rfl rfl (by (try simp only [List.map_toArray, List.map_cons, List.map_nil]); first | done | rfl | (simp only [List.length_drop, List.length_take]; rfl)) ?_
  with_reducible refine (market_checkPrice.calls a0_1 t103 _ A3.out).mono ?_
  rintro e w' ⟨rfl, ⟨nd, rfl⟩⟩
  refine ⟨_, rfl, ?_⟩
  refine hK.out _ _ ⟨(blk_cell BK101.out 0).trans rfl, (blk_cell BK101.out 1).trans rfl, (blk_cell BK101.out 2).trans rfl⟩ (fun hHeld => ?_)
  clear hK K
  refine norm_ (a' := ?_) ?_ ?_
  rotate_left
  ·show Act.put _ (some 8) _ = _
   simp only [Act.put, List.setIfInBounds_toArray, List.set_cons_zero, List.set_cons_succ, i64_w, i32_w]
   rfl
  refine one_ (i := 8) (N := some 11) #[true, true, true, true, true, true, true, true, true, true, true, true, true, true, false, false, false, false, false, false, false, false, false, false, false] rfl rfl (one_of HT_.out (by kernel_rfl)) (by decide) (fun K hK => ?_)
  refine goes_ Tryz.func93 (by kernel_rfl) rfl #[.int .i64 a0_2] (by rfl) rfl rfl (by (try simp only [List.map_toArray, List.map_cons, List.map_nil]); first | done | rfl | (simp only [List.length_drop, List.length_take]; rfl)) ?_
  with_reducible refine (market_checkPrice.calls a0_2 t104 _ A4.out).mono ?_
  rintro e w' ⟨rfl, ⟨nd, rfl⟩⟩
  refine ⟨_, rfl, ?_⟩
  refine hK.out _ _ ⟨(blk_cell BK101.out 0).trans rfl, (blk_cell BK101.out 1).trans rfl, (blk_cell BK101.out 2).trans rfl⟩ (fun hHeld => ?_)
  clear hK K
  refine norm_ (a' := ?_) ?_ ?_
  rotate_left
  ·show Act.put _ (some 11) _ = _
   simp only [Act.put, List.setIfInBounds_toArray, List.set_cons_zero, List.set_cons_succ, i64_w, i32_w]
   rfl
  refine pv_ 14 17 #[true, true, true, true, true, true, true, true, true, true, true, true, true, true, true, false, false, false, false, false, false, false, false, false, false] (any_of HT_.out (by kernel_rfl)) ?_
  refine pv_ 15 18 #[true, true, true, true, true, true, true, true, true, true, true, true, true, true, true, true, false, false, false, false, false, false, false, false, false] (any_of HT_.out (by kernel_rfl)) ?_
  refine pv_ 17 20 #[true, true, true, true, true, true, true, true, true, true, true, true, true, true, true, true, false, true, false, false, false, false, false, false, false] (any_of HT_.out (by kernel_rfl)) ?_
  refine take_ (i := 16) (N := some 19) (v := ?_) (a' := ?_) #[true, true, true, true, true, true, true, true, true, true, true, true, true, true, true, true, true, true, false, false, false, false, false, false, false] rfl rfl (take_ofW HT_.out HW_.out (by kernel_rfl)) (fun _ _ _ h => h) (Or.inl ⟨by rfl, ?_⟩) hHeld ?_ ?_
  rotate_left
  ·rintro w' ⟨s0, s1, s2⟩
   go_simp
   with_reducible rfl
  rotate_left
  ·simp only [Act.put, List.setIfInBounds_toArray, List.set_cons_zero, List.set_cons_succ, i64_w, i32_w]
   rfl
  refine take_ (i := 18) (N := some 21) (v := ?_) (a' := ?_) #[true, true, true, true, true, true, true, true, true, true, true, true, true, true, true, true, true, true, true, false, false, false, false, false, false] rfl rfl (take_ofW HT_.out HW_.out (by kernel_rfl)) (fun _ _ _ h => h) (Or.inl ⟨by rfl, ?_⟩) hHeld ?_ ?_
  rotate_left
  ·rintro w' ⟨s0, s1, s2⟩
   go_simp
   with_reducible rfl
  rotate_left
  ·simp only [Act.put, List.setIfInBounds_toArray, List.set_cons_zero, List.set_cons_succ, i64_w, i32_w]
   rfl
  refine pv_ 19 22 #[true, true, true, true, true, true, true, true, true, true, true, true, true, true, true, true, true, true, true, true, false, false, false, false, false] (any_of HT_.out (by kernel_rfl)) ?_
  refine pv_ 20 23 #[true, true, true, true, true, true, true, true, true, true, true, true, true, true, true, true, true, true, true, true, true, false, false, false, false] (any_of HT_.out (by kernel_rfl)) ?_
  refine one_ (i := 21) (N := some 24) #[true, true, true, true, true, true, true, true, true, true, true, true, true, true, true, true, true, true, true, true, true, true, false, false, false] rfl rfl (one_of HT_.out (by kernel_rfl)) (by decide) (fun K hK => ?_)
  refine goes_ Tryz.func90 (by kernel_rfl) rfl #[.bool (decide (a0_2 < a0_1)), .int .i64 11] (by rfl) rfl rfl (by (try simp only [List.map_toArray, List.map_cons, List.map_nil]); first | done | rfl | (simp only [List.length_drop, List.length_take]; rfl)) ?_
  with_reducible refine (market_when.calls (decide (a0_2 < a0_1)) 11 t110 _ A13.out).mono ?_
  rintro e w' ⟨rfl, ⟨nd, rfl⟩⟩
  refine ⟨_, rfl, ?_⟩
  refine hK.out _ _ ⟨(blk_cell BK101.out 0).trans rfl, (blk_cell BK101.out 1).trans rfl, (blk_cell BK101.out 2).trans rfl⟩ (fun hHeld => ?_)
  clear hK K
  refine norm_ (a' := ?_) ?_ ?_
  rotate_left
  ·show Act.put _ (some 24) _ = _
   simp only [Act.put, List.setIfInBounds_toArray, List.set_cons_zero, List.set_cons_succ, i64_w, i32_w]
   rfl
  refine one_ (i := 22) (N := some 25) #[true, true, true, true, true, true, true, true, true, true, true, true, true, true, true, true, true, true, true, true, true, true, true, false, false] rfl rfl (one_of HT_.out (by kernel_rfl)) (by decide) (fun K hK => ?_)
  refine Kd.R_lit_step (Kd.int .i64) _ 28 ?hg (N := 25) ?hd (xs := ([t102, t103, t104, t110] : List Int)) (inner := [.int .i64 t102, .int .i64 t103, .int .i64 t104, .int .i64 t110]) (ok := fun _ => True) (okp := fun _ => True) ?hr ?hp (fun _ hk => hk) trivial (Below.refl _ _) (Nat.le_refl _) (by simp) ?_; (case hd => rfl); (case hg => rfl); (case hr => first | (go_simp; done) | (go_simp; rfl)); (case hp => exact (Reps.one (show Kd.M (Kd.int .i64) _ _ _ t102 [.int .i64 t102] from rfl) (Reps.one (show Kd.M (Kd.int .i64) _ _ _ t103 [.int .i64 t103] from rfl) (Reps.one (show Kd.M (Kd.int .i64) _ _ _ t104 [.int .i64 t104] from rfl) (Reps.one (show Kd.M (Kd.int .i64) _ _ _ t110 [.int .i64 t110] from rfl) (Reps.none _ _))))))
  intro v112 w17 ho18 hb hg_ hnew_
  clear hg_ hnew_
  (first | rw [← Ny111.out] at ho18 | (simp only [Int.reduceToNat] at ho18; rw [← Ny111.out] at ho18))
  have n0_ := Aside0.mk (Kd.R_lower ho18 (below_size (wg_ HB.out GE101.out)))
  have n1_ := Aside0.mk (blk_below (g := gb101) (o := .cells #[.int .i64 a0_0, .int .i64 a0_1, .int .i64 a0_2] 31 (0, 0)) (bs_ BK101.out) hb)
  have n2_ := Aside0.mk (below_step (wg_ HB.out GE101.out) hb)
  clear BK101
  clear HB
  have HO113 := n0_
  have BK101 := n1_
  have HB := n2_
  clear n0_ n1_ n2_
  clear hb ho18
  obtain ⟨Ao19, co19, eo19⟩ := Kd.R_slice HO113.out
  (first | subst eo19 | (injection eo19 with f1_ f2_ f3_; have f4_ := f1_.symm; have f5_ := f3_.symm; clear f1_ f2_ f3_; subst f4_; subst f5_))
  refine hK.out _ _ ⟨(blk_cell BK101.out 0).trans rfl, (blk_cell BK101.out 1).trans rfl, (blk_cell BK101.out 2).trans rfl⟩ (fun hHeld => ?_)
  clear hK K
  refine norm_ (a' := ?_) ?_ ?_
  rotate_left
  ·show Act.put _ (some 25) _ = _
   simp only [Act.put, List.setIfInBounds_toArray, List.set_cons_zero, List.set_cons_succ, i64_w, i32_w]
   rfl
  refine one_ (i := 23) (N := some 26) #[true, true, true, true, true, true, true, true, true, true, true, true, true, true, true, true, true, true, true, true, true, true, true, true, false] rfl rfl (one_of HT_.out (by kernel_rfl)) (by decide) (fun K hK => ?_)
  refine goes_ Tryz.func85 (by kernel_rfl) rfl #[.slice Ao19 y111.length co19] (by rfl) rfl rfl (by (try simp only [List.map_toArray, List.map_cons, List.map_nil]); first | done | rfl | (simp only [List.length_drop, List.length_take]; rfl)) ?_
  with_reducible refine (market_first.calls k _ _ y111 t114 _ ?side1 ?side2 A14.out).mono ?_
  (case side1 => repeat (first | exact (Kd.R_reads' HO113.out).2.2 | (with_reducible refine Kd.C_alloc ?_ _) | (with_reducible refine Kd.C_drewN ?_ _) | (with_reducible refine Kd.C_drew ?_)))
  (case side2 => exact (Kd.R_reads' HO113.out).2.1)
  rintro e w' ⟨rfl, ⟨nd, rfl⟩⟩
  refine ⟨_, rfl, ?_⟩
  refine hK.out _ _ ⟨(blk_cell BK101.out 0).trans rfl, (blk_cell BK101.out 1).trans rfl, (blk_cell BK101.out 2).trans rfl⟩ (fun hHeld => ?_)
  clear hK K
  refine norm_ (a' := ?_) ?_ ?_
  rotate_left
  ·show Act.put _ (some 26) _ = _
   simp only [Act.put, List.setIfInBounds_toArray, List.set_cons_zero, List.set_cons_succ, i64_w, i32_w]
   rfl
  refine pv_ 24 2 #[true, true, true, true, true, true, true, true, true, true, true, true, true, true, true, true, true, true, true, true, true, true, true, true, true] (any_of HT_.out (by kernel_rfl)) ?_
  refine done_ (done_of HT_.out (by kernel_rfl)) ?_
  try go_wp2
  go_ret
  exact ⟨by first | rfl | (simp [errW_none, errW_some] <;> rfl) | (simp [*, errW_none, errW_some] <;> rfl), by repeat (first | (with_reducible first | exact HB.out | apply below_alloc | apply pw_below_drewN | apply below_drew1 | refine below_set ?_ GE101.out) | exact HB.out)⟩
/-! ### market_Prices_settled: function 87 -/
def market_Prices_settled.f (a0_0 : Int) (a0_1 : Int) (a0_2 : Int) (a1 : Int) (a2 : Int) : Option (Int) := some (wrap64 ((wrap64 ((wrap64 (a0_1 * a1)) + (wrap64 (a0_0 * (mx a2 0))))) - (wrap64 (a0_2 * (mx (wrap64 (-a2)) 0)))))
set_option maxHeartbeats 8000000 in
set_option maxRecDepth 100000 in
theorem market_Prices_settled.calls (a0_0 : Int) (a0_1 : Int) (a0_2 : Int) (a1 : Int) (a2 : Int) (r : Int) (w : World) (h : market_Prices_settled.f a0_0 a0_1 a0_2 a1 a2 = some r) :
  Calls Tryz.prog 87 #[.agg #[.int .i64 a0_0, .int .i64 a0_1, .int .i64 a0_2], .int .i64 a1, .int .i64 a2] w fun e w' => e = .returned (.int .i64 r) ∧ Below w.heap.size w w' := by
 have hu31 := Tryz.underlying31
 have HB := Aside0.mk (Below.refl w.heap.size w)
 have H : (some (wrap64 ((wrap64 ((wrap64 (a0_1 * a1)) + (wrap64 (a0_0 * (mx a2 0))))) - (wrap64 (a0_2 * (mx (wrap64 (-a2)) 0)))))) = some r := h
 clear h
 obtain ⟨ji4, hji4⟩ : ∃ j_ : Int, (mx a2 0) = j_ := ⟨_, rfl⟩
 replace H : (some (wrap64 ((wrap64 ((wrap64 (a0_1 * a1)) + (wrap64 (a0_0 * (ji4))))) - (wrap64 (a0_2 * (mx (wrap64 (-a2)) 0)))))) = some r := by first | (rw [hji4] at H; exact H) | (simp only [hji4] at H ⊢; exact H)
 (try (have hji4l : 0 ≤ ji4 := by (rw [← hji4]; unfold mx; (repeat' split) <;> omega)))
 (try (have hji4m : 0 ≤ ji4 := by omega))
 have hji4_ : (if a2 < 0 then 0 else a2) = ji4 := hji4
 obtain ⟨ji5, hji5⟩ : ∃ j_ : Int, (mx (wrap64 (-a2)) 0) = j_ := ⟨_, rfl⟩
 replace H : (some (wrap64 ((wrap64 ((wrap64 (a0_1 * a1)) + (wrap64 (a0_0 * (ji4))))) - (wrap64 (a0_2 * (ji5)))))) = some r := by first | (rw [hji5] at H; exact H) | (simp only [hji5] at H ⊢; exact H)
 (try (have hji5l : 0 ≤ ji5 := by (rw [← hji5]; unfold mx; (repeat' split) <;> omega)))
 (try (have hji5m : 0 ≤ ji5 := by omega))
 have hji5_ : (if (wrap64 (-a2)) < 0 then 0 else (wrap64 (-a2))) = ji5 := hji5
 obtain rfl := Option.some.inj H
 go_enter Tryz.func87, Tryz.ntmps87
 go_wp2_with (first | ((with_reducible refine gate_dst (N := 3) rfl ?_); refine box_event ?hg (N := 3) ?hd (cs := #[.int .i64 a0_0, .int .i64 a0_1, .int .i64 a0_2]) (t := 31) ?hr ?_; (case hd => rfl); (case hg => rfl); (case hr => first | (go_simp; done) | (go_simp; rfl)); intro gb101 hg w6 hbox hb; have n0_ := Aside0.mk (below_step (ws_ HB.out) hb); have n1_ := Aside0.mk (hbox); have n2_ := Aside0.mk ((by rw [hg]; exact (below_size (ws_ HB.out)) : w.heap.size ≤ gb101)); have n3_ := Aside0.mk ((by rw [hg]; exact (below_size (ws_ HB.out)) : w.heap.size ≤ gb101)); clear HB; have HB := n0_; have BK101 := n1_; have GW101 := n2_; have GE101 := n3_; clear n0_ n1_ n2_ n3_; clear hb hbox hg; have hcz7_0 : w6.cell? ⟨gb101, 0, none⟩ = some (.int .i64 a0_0) := (blk_cell BK101.out 0).trans rfl; have hcz7_1 : w6.cell? ⟨gb101, 1, none⟩ = some (.int .i64 a0_1) := (blk_cell BK101.out 1).trans rfl; have hcz7_2 : w6.cell? ⟨gb101, 2, none⟩ = some (.int .i64 a0_2) := (blk_cell BK101.out 2).trans rfl; have hfz7_0 := blk_frozen BK101.out 0; have hfz7_1 := blk_frozen BK101.out 1; have hfz7_2 := blk_frozen BK101.out 2))
 go_ret
 exact ⟨by first | rfl | (simp [errW_none, errW_some] <;> rfl) | (simp only [← hji4, ← hji5]; first | rfl | (simp [errW_none, errW_some] <;> rfl)) | (simp [*, errW_none, errW_some] <;> rfl), by repeat (first | (with_reducible first | exact HB.out | apply below_alloc | apply pw_below_drewN | apply below_drew1 | refine below_set ?_ GE101.out) | exact HB.out)⟩
/-! ### market_Revenue: function 19 -/
def market_Revenue.f (k : Nat) (a0_0 : Int) (a0_1 : Int) (a0_2 : Int) (a1 : Int) (a2 : Int) : Option (Int × Int) := (market_CheckPrices.f k a0_0 a0_1 a0_2).bind fun t102 => ((market_checkEnergy.f a1).bind fun t103 => ((market_checkEnergy.f a2).bind fun t104 => ((market_first.f k (([t102, t103, t104] : List Int))).bind fun t108 => (if t108 = 0 then ((market_Prices_settled.f a0_0 a0_1 a0_2 a1 (wrap64 (a2 - a1))).bind fun t109 => (some (t109, 0))) else (some (0, t108))))))
set_option maxHeartbeats 8000000 in
set_option maxRecDepth 100000 in
theorem market_Revenue.calls (k : Nat) (a0_0 : Int) (a0_1 : Int) (a0_2 : Int) (a1 : Int) (a2 : Int) (r1 : Int) (r2 : Int) (w : World) (h : market_Revenue.f k a0_0 a0_1 a0_2 a1 a2 = some (r1, r2)) :
  Calls Tryz.prog 19 #[.agg #[.int .i64 a0_0, .int .i64 a0_1, .int .i64 a0_2], .int .i64 a1, .int .i64 a2] w fun e w' => e = .returned (.tuple #[.int .i64 r1, .int .i64 r2]) ∧ Below w.heap.size w w' := by
 have hu31 := Tryz.underlying31
 have HB := Aside0.mk (Below.refl w.heap.size w)
 have H : ((market_CheckPrices.f k a0_0 a0_1 a0_2).bind fun t102 => ((market_checkEnergy.f a1).bind fun t103 => ((market_checkEnergy.f a2).bind fun t104 => ((market_first.f k (([t102, t103, t104] : List Int))).bind fun t108 => (if t108 = 0 then ((market_Prices_settled.f a0_0 a0_1 a0_2 a1 (wrap64 (a2 - a1))).bind fun t109 => (some (t109, 0))) else (some (0, t108))))))) = some (r1, r2) := h
 clear h
 replace H := Option.bind_eq_some_iff.mp H
 obtain ⟨t102, A40, H⟩ := H
 replace H : ((market_checkEnergy.f a1).bind fun t103 => ((market_checkEnergy.f a2).bind fun t104 => ((market_first.f k (([t102, t103, t104] : List Int))).bind fun t108 => (if t108 = 0 then ((market_Prices_settled.f a0_0 a0_1 a0_2 a1 (wrap64 (a2 - a1))).bind fun t109 => (some (t109, 0))) else (some (0, t108)))))) = some (r1, r2) := H
 have A4 := Aside0.mk A40
 clear A40
 replace H := Option.bind_eq_some_iff.mp H
 obtain ⟨t103, A50, H⟩ := H
 replace H : ((market_checkEnergy.f a2).bind fun t104 => ((market_first.f k (([t102, t103, t104] : List Int))).bind fun t108 => (if t108 = 0 then ((market_Prices_settled.f a0_0 a0_1 a0_2 a1 (wrap64 (a2 - a1))).bind fun t109 => (some (t109, 0))) else (some (0, t108))))) = some (r1, r2) := H
 have A5 := Aside0.mk A50
 clear A50
 replace H := Option.bind_eq_some_iff.mp H
 obtain ⟨t104, A60, H⟩ := H
 replace H : ((market_first.f k (([t102, t103, t104] : List Int))).bind fun t108 => (if t108 = 0 then ((market_Prices_settled.f a0_0 a0_1 a0_2 a1 (wrap64 (a2 - a1))).bind fun t109 => (some (t109, 0))) else (some (0, t108)))) = some (r1, r2) := H
 have A6 := Aside0.mk A60
 clear A60
 obtain ⟨y105, hy105⟩ : ∃ y_ : List Int, y_ = (([t102, t103, t104] : List Int)) := ⟨_, rfl⟩
 replace H : ((market_first.f k y105).bind fun t108 => (if t108 = 0 then ((market_Prices_settled.f a0_0 a0_1 a0_2 a1 (wrap64 (a2 - a1))).bind fun t109 => (some (t109, 0))) else (some (0, t108)))) = some (r1, r2) := by first | (rw [hy105]; with_reducible exact H) | (have H2_ := (Option.bind_some _ _).symm.trans H; rw [hy105]; with_reducible exact H2_) | (have H2_ := (Option.bind_some _ _).symm.trans H; with_reducible exact H2_) | with_reducible exact H | (rw [hy105]; exact H) | exact H
 have Ny105 := Aside0.mk hy105
 clear hy105
 replace H := Option.bind_eq_some_iff.mp H
 obtain ⟨t108, A70, H⟩ := H
 replace H : (if t108 = 0 then ((market_Prices_settled.f a0_0 a0_1 a0_2 a1 (wrap64 (a2 - a1))).bind fun t109 => (some (t109, 0))) else (some (0, t108))) = some (r1, r2) := H
 have A7 := Aside0.mk A70
 clear A70
 by_cases c8 : t108 = 0
 ·rw [if_pos c8] at H
  have c8b0 : (t108 == 0) = true := beq_iff_eq.mpr c8
  have c8b1 : (t108 != 0) = false := bne_eq_false_iff_eq.mpr c8
  clear c8
  replace H := Option.bind_eq_some_iff.mp H
  obtain ⟨t109, A90, H⟩ := H
  replace H : (some (t109, 0)) = some (r1, r2) := H
  have A9 := Aside0.mk A90
  clear A90
  simp only [Option.some.injEq, Prod.mk.injEq] at H
  obtain ⟨rfl, rfl⟩ := H
  go_enter Tryz.func19, Tryz.ntmps19
  go_wp2_with (first | ((with_reducible refine gate_dst (N := 3) rfl ?_); refine box_event ?hg (N := 3) ?hd (cs := #[.int .i64 a0_0, .int .i64 a0_1, .int .i64 a0_2]) (t := 31) ?hr ?_; (case hd => rfl); (case hg => rfl); (case hr => first | (go_simp; done) | (go_simp; rfl)); intro gb101 hg w10 hbox hb; have n0_ := Aside0.mk (below_step (ws_ HB.out) hb); have n1_ := Aside0.mk (hbox); have n2_ := Aside0.mk ((by rw [hg]; exact (below_size (ws_ HB.out)) : w.heap.size ≤ gb101)); have n3_ := Aside0.mk ((by rw [hg]; exact (below_size (ws_ HB.out)) : w.heap.size ≤ gb101)); clear HB; have HB := n0_; have BK101 := n1_; have GW101 := n2_; have GE101 := n3_; clear n0_ n1_ n2_ n3_; clear hb hbox hg; have hcz11_0 : w10.cell? ⟨gb101, 0, none⟩ = some (.int .i64 a0_0) := (blk_cell BK101.out 0).trans rfl; have hcz11_1 : w10.cell? ⟨gb101, 1, none⟩ = some (.int .i64 a0_1) := (blk_cell BK101.out 1).trans rfl; have hcz11_2 : w10.cell? ⟨gb101, 2, none⟩ = some (.int .i64 a0_2) := (blk_cell BK101.out 2).trans rfl; have hfz11_0 := blk_frozen BK101.out 0; have hfz11_1 := blk_frozen BK101.out 1; have hfz11_2 := blk_frozen BK101.out 2) | ((with_reducible refine gate_callee (f := 27) rfl ?_); refine gl_ (some 10) Tryz.func27 #[.agg #[.int .i64 a0_0, .int .i64 a0_1, .int .i64 a0_2]] ?_; (with_reducible refine (market_CheckPrices.calls k a0_0 a0_1 a0_2 t102 _ A4.out).mono ?_); rintro e w12 ⟨rfl, hb⟩; refine ⟨_, rfl, ?_⟩; have n0_ := Aside0.mk (blk_below (g := gb101) (o := .cells #[.int .i64 a0_0, .int .i64 a0_1, .int .i64 a0_2] 31 (0, 0)) (bs_ BK101.out) hb); have n1_ := Aside0.mk (below_step (wg_ HB.out GE101.out) hb); clear BK101; clear HB; have BK101 := n0_; have HB := n1_; clear n0_ n1_; (try clear hb); (try clear hb2); (try clear hk); (try clear hi)) | ((with_reducible refine gate_callee (f := 86) rfl ?_); refine gl_ (some 12) Tryz.func86 #[.int .i64 a1] ?_; (with_reducible refine (market_checkEnergy.calls a1 t103 _ A5.out).mono ?_); rintro e w' ⟨rfl, ⟨nd, rfl⟩⟩; refine ⟨_, rfl, ?_⟩) | ((with_reducible refine gate_callee (f := 86) rfl ?_); refine gl_ (some 14) Tryz.func86 #[.int .i64 a2] ?_; (with_reducible refine (market_checkEnergy.calls a2 t104 _ A6.out).mono ?_); rintro e w' ⟨rfl, ⟨nd, rfl⟩⟩; refine ⟨_, rfl, ?_⟩) | ((with_reducible refine gate_dst (N := 15) rfl ?_); refine Kd.R_lit (Kd.int .i64) _ 28 ?hg (N := 15) ?hd (xs := ([t102, t103, t104] : List Int)) (inner := [.int .i64 t102, .int .i64 t103, .int .i64 t104]) (ok := fun _ => True) (okp := fun _ => True) ?hr ?hp (fun _ hk => hk) trivial (Below.refl _ _) (Nat.le_refl _) (by simp) ?_; (case hd => rfl); (case hg => rfl); (case hr => first | (go_simp; done) | (go_simp; rfl)); (case hp => exact (Reps.one (show Kd.M (Kd.int .i64) _ _ _ t102 [.int .i64 t102] from rfl) (Reps.one (show Kd.M (Kd.int .i64) _ _ _ t103 [.int .i64 t103] from rfl) (Reps.one (show Kd.M (Kd.int .i64) _ _ _ t104 [.int .i64 t104] from rfl) (Reps.none _ _))))); intro v106 w13 ho14 hb hg_ hnew_; clear hg_ hnew_; (first | rw [← Ny105.out] at ho14 | (simp only [Int.reduceToNat] at ho14; rw [← Ny105.out] at ho14)); have n0_ := Aside0.mk (Kd.R_lower ho14 (below_size (wg_ HB.out GE101.out))); have n1_ := Aside0.mk (blk_below (g := gb101) (o := .cells #[.int .i64 a0_0, .int .i64 a0_1, .int .i64 a0_2] 31 (0, 0)) (bs_ BK101.out) hb); have n2_ := Aside0.mk (below_step (wg_ HB.out GE101.out) hb); clear BK101; clear HB; have HO107 := n0_; have BK101 := n1_; have HB := n2_; clear n0_ n1_ n2_; clear hb ho14; obtain ⟨Ao15, co15, eo15⟩ := Kd.R_slice HO107.out; subst eo15) | ((with_reducible refine gate_callee (f := 85) rfl ?_); refine gl_ (some 16) Tryz.func85 #[.slice Ao15 y105.length co15] ?_; (with_reducible refine (market_first.calls k _ _ y105 t108 _ ?side1 ?side2 A7.out).mono ?_); (case side1 => repeat (first | exact (Kd.R_reads' HO107.out).2.2 | (with_reducible refine Kd.C_alloc ?_ _) | (with_reducible refine Kd.C_drewN ?_ _) | (with_reducible refine Kd.C_drew ?_))); (case side2 => exact (Kd.R_reads' HO107.out).2.1); rintro e w' ⟨rfl, ⟨nd, rfl⟩⟩; refine ⟨_, rfl, ?_⟩; have hcz16_0 : w13.cell? ⟨gb101, 0, none⟩ = some (.int .i64 a0_0) := (blk_cell BK101.out 0).trans rfl; have hcz16_1 : w13.cell? ⟨gb101, 1, none⟩ = some (.int .i64 a0_1) := (blk_cell BK101.out 1).trans rfl; have hcz16_2 : w13.cell? ⟨gb101, 2, none⟩ = some (.int .i64 a0_2) := (blk_cell BK101.out 2).trans rfl; have hfz16_0 := blk_frozen BK101.out 0; have hfz16_1 := blk_frozen BK101.out 1; have hfz16_2 := blk_frozen BK101.out 2) | ((with_reducible refine gate_callee (f := 87) rfl ?_); refine gl_ (some 25) Tryz.func87 #[.agg #[.int .i64 a0_0, .int .i64 a0_1, .int .i64 a0_2], .int .i64 a1, .int .i64 (wrap64 (a2 - a1))] ?_; (with_reducible refine (market_Prices_settled.calls a0_0 a0_1 a0_2 a1 (wrap64 (a2 - a1)) t109 _ A9.out).mono ?_); rintro e w17 ⟨rfl, hb⟩; refine ⟨_, rfl, ?_⟩; have n0_ := Aside0.mk (Kd.R_below (rs_ HO107.out) hb); have n1_ := Aside0.mk (blk_below (g := gb101) (o := .cells #[.int .i64 a0_0, .int .i64 a0_1, .int .i64 a0_2] 31 (0, 0)) (bs_ BK101.out) hb); have n2_ := Aside0.mk (below_step (wg_ HB.out GE101.out) hb); clear HO107; clear BK101; clear HB; have HO107 := n0_; have BK101 := n1_; have HB := n2_; clear n0_ n1_ n2_; (try clear hb); (try clear hb2); (try clear hk); (try clear hi)))
  go_ret2
  exact ⟨by first | rfl | (simp [errW_none, errW_some] <;> rfl) | (simp [*, errW_none, errW_some] <;> rfl), by repeat (first | (with_reducible first | exact HB.out | apply below_alloc | apply pw_below_drewN | apply below_drew1 | refine below_set ?_ GE101.out) | exact HB.out)⟩
 ·rw [if_neg c8] at H
  have c8b0 : (t108 == 0) = false := beq_eq_false_iff_ne.mpr c8
  have c8b1 : (t108 != 0) = true := bne_iff_ne.mpr c8
  simp only [Option.some.injEq, Prod.mk.injEq] at H
  obtain ⟨rfl, rfl⟩ := H
  go_enter Tryz.func19, Tryz.ntmps19
  go_wp2_with (first | ((with_reducible refine gate_dst (N := 3) rfl ?_); refine box_event ?hg (N := 3) ?hd (cs := #[.int .i64 a0_0, .int .i64 a0_1, .int .i64 a0_2]) (t := 31) ?hr ?_; (case hd => rfl); (case hg => rfl); (case hr => first | (go_simp; done) | (go_simp; rfl)); intro gb101 hg w18 hbox hb; have n0_ := Aside0.mk (below_step (ws_ HB.out) hb); have n1_ := Aside0.mk (hbox); have n2_ := Aside0.mk ((by rw [hg]; exact (below_size (ws_ HB.out)) : w.heap.size ≤ gb101)); have n3_ := Aside0.mk ((by rw [hg]; exact (below_size (ws_ HB.out)) : w.heap.size ≤ gb101)); clear HB; have HB := n0_; have BK101 := n1_; have GW101 := n2_; have GE101 := n3_; clear n0_ n1_ n2_ n3_; clear hb hbox hg; have hcz19_0 : w18.cell? ⟨gb101, 0, none⟩ = some (.int .i64 a0_0) := (blk_cell BK101.out 0).trans rfl; have hcz19_1 : w18.cell? ⟨gb101, 1, none⟩ = some (.int .i64 a0_1) := (blk_cell BK101.out 1).trans rfl; have hcz19_2 : w18.cell? ⟨gb101, 2, none⟩ = some (.int .i64 a0_2) := (blk_cell BK101.out 2).trans rfl; have hfz19_0 := blk_frozen BK101.out 0; have hfz19_1 := blk_frozen BK101.out 1; have hfz19_2 := blk_frozen BK101.out 2) | ((with_reducible refine gate_callee (f := 27) rfl ?_); refine gl_ (some 10) Tryz.func27 #[.agg #[.int .i64 a0_0, .int .i64 a0_1, .int .i64 a0_2]] ?_; (with_reducible refine (market_CheckPrices.calls k a0_0 a0_1 a0_2 t102 _ A4.out).mono ?_); rintro e w20 ⟨rfl, hb⟩; refine ⟨_, rfl, ?_⟩; have n0_ := Aside0.mk (blk_below (g := gb101) (o := .cells #[.int .i64 a0_0, .int .i64 a0_1, .int .i64 a0_2] 31 (0, 0)) (bs_ BK101.out) hb); have n1_ := Aside0.mk (below_step (wg_ HB.out GE101.out) hb); clear BK101; clear HB; have BK101 := n0_; have HB := n1_; clear n0_ n1_; (try clear hb); (try clear hb2); (try clear hk); (try clear hi)) | ((with_reducible refine gate_callee (f := 86) rfl ?_); refine gl_ (some 12) Tryz.func86 #[.int .i64 a1] ?_; (with_reducible refine (market_checkEnergy.calls a1 t103 _ A5.out).mono ?_); rintro e w' ⟨rfl, ⟨nd, rfl⟩⟩; refine ⟨_, rfl, ?_⟩) | ((with_reducible refine gate_callee (f := 86) rfl ?_); refine gl_ (some 14) Tryz.func86 #[.int .i64 a2] ?_; (with_reducible refine (market_checkEnergy.calls a2 t104 _ A6.out).mono ?_); rintro e w' ⟨rfl, ⟨nd, rfl⟩⟩; refine ⟨_, rfl, ?_⟩) | ((with_reducible refine gate_dst (N := 15) rfl ?_); refine Kd.R_lit (Kd.int .i64) _ 28 ?hg (N := 15) ?hd (xs := ([t102, t103, t104] : List Int)) (inner := [.int .i64 t102, .int .i64 t103, .int .i64 t104]) (ok := fun _ => True) (okp := fun _ => True) ?hr ?hp (fun _ hk => hk) trivial (Below.refl _ _) (Nat.le_refl _) (by simp) ?_; (case hd => rfl); (case hg => rfl); (case hr => first | (go_simp; done) | (go_simp; rfl)); (case hp => exact (Reps.one (show Kd.M (Kd.int .i64) _ _ _ t102 [.int .i64 t102] from rfl) (Reps.one (show Kd.M (Kd.int .i64) _ _ _ t103 [.int .i64 t103] from rfl) (Reps.one (show Kd.M (Kd.int .i64) _ _ _ t104 [.int .i64 t104] from rfl) (Reps.none _ _))))); intro v106 w21 ho22 hb hg_ hnew_; clear hg_ hnew_; (first | rw [← Ny105.out] at ho22 | (simp only [Int.reduceToNat] at ho22; rw [← Ny105.out] at ho22)); have n0_ := Aside0.mk (Kd.R_lower ho22 (below_size (wg_ HB.out GE101.out))); have n1_ := Aside0.mk (blk_below (g := gb101) (o := .cells #[.int .i64 a0_0, .int .i64 a0_1, .int .i64 a0_2] 31 (0, 0)) (bs_ BK101.out) hb); have n2_ := Aside0.mk (below_step (wg_ HB.out GE101.out) hb); clear BK101; clear HB; have HO107 := n0_; have BK101 := n1_; have HB := n2_; clear n0_ n1_ n2_; clear hb ho22; obtain ⟨Ao23, co23, eo23⟩ := Kd.R_slice HO107.out; subst eo23) | ((with_reducible refine gate_callee (f := 85) rfl ?_); refine gl_ (some 16) Tryz.func85 #[.slice Ao23 y105.length co23] ?_; (with_reducible refine (market_first.calls k _ _ y105 t108 _ ?side1 ?side2 A7.out).mono ?_); (case side1 => repeat (first | exact (Kd.R_reads' HO107.out).2.2 | (with_reducible refine Kd.C_alloc ?_ _) | (with_reducible refine Kd.C_drewN ?_ _) | (with_reducible refine Kd.C_drew ?_))); (case side2 => exact (Kd.R_reads' HO107.out).2.1); rintro e w' ⟨rfl, ⟨nd, rfl⟩⟩; refine ⟨_, rfl, ?_⟩))
  go_ret2
  exact ⟨by first | rfl | (simp [errW_none, errW_some] <;> rfl) | (simp [*, errW_none, errW_some] <;> rfl), by repeat (first | (with_reducible first | exact HB.out | apply below_alloc | apply pw_below_drewN | apply below_drew1 | refine below_set ?_ GE101.out) | exact HB.out)⟩
/-! ### market_CheckEnsemble: function 24 -/
def market_CheckEnsemble.l0 : Nat → List (S156) → List (S156) → Int → Int → Option (Int)
 | 0, _, _, _, _ => none
 | k + 1, x0, x22, x23, x24 => if x24 < x23 then (if 0 ≤ x24 then (if x24 < (x22.length : Int) then ((market_within.f ((rd_T156 x22 x24).f0) 1 1000).bind fun t109 => ((market_when.f ((((rd_T156 x22 x24).f1).length : Int) == 0) 12).bind fun t110 => ((market_when.f (decide ((((rd_T156 x22 x24).f1).length : Int) > 96)) 5).bind fun t111 => (if 0 < (x0.length : Int) then ((market_when.f ((((rd_T156 x22 x24).f1).length : Int) != (((rd_T156 x0 0).f1).length : Int)) 2).bind fun t113 => ((market_first.f k (([t109, t110, t111, t113] : List Int))).bind fun t117 => (if t117 = 0 then ((api_Errno_92__market_checkEnergy.f k ((rd_T156 x22 x24).f1) ()).bind fun t118 => ((market_first.f k t118).bind fun t121 => (if t121 = 0 then (market_CheckEnsemble.l0 k x0 x22 x23 (wrap64 (x24 + 1))) else (some t121)))) else (some t117)))) else (none))))) else (none)) else (none)) else (some 0)
def market_CheckEnsemble.f (k : Nat) (l0 : List (S156)) : Option (Int) := (market_when.f ((l0.length : Int) == 0) 12).bind fun t101 => ((market_when.f (decide ((l0.length : Int) > 16)) 5).bind fun t102 => ((market_first.f k (([t101, t102] : List Int))).bind fun t106 => (if t106 = 0 then (market_CheckEnsemble.l0 k l0 l0 (l0.length : Int) 0) else (some t106))))
def market_CheckEnsemble.T8 : Bool × List (List Nat × List Nat) := (true, [([], []), ([0], [0]), ([1], [1]), ([], []), ([3], [3]), ([4, 2], [4]), ([], []), ([6], [6]), ([7, 5], [7]), ([], []), ([], []), ([10], [10]), ([11], [11]), ([12], [12]), ([13], [13]), ([9, 14], [9, 14]), ([15, 8], [15]), ([2, 5, 8, 16], [2, 5, 8, 16]), ([17, 16], [17]), ([18, 18, 0, 1, 2, 3, 4, 5, 6, 7, 8, 9, 10, 11, 12, 13, 14, 15, 16, 17, 18], [18])])
def market_CheckEnsemble.B8 : List Nat := [0, 1, 3, 0, 8, 31, 0, 64, 255, 0, 0, 1024, 3072, 7168, 15360, 32256, 65535, 131071, 262143, 524287]
theorem market_CheckEnsemble.tab8 : rtab .any (opsOf Tryz.f24 8) = market_CheckEnsemble.T8 := by kernel_rfl
theorem market_CheckEnsemble.bits8 : waitsOk market_CheckEnsemble.T8.2 market_CheckEnsemble.B8 = true := by kernel_rfl
set_option maxHeartbeats 8000000 in
set_option maxRecDepth 100000 in
theorem market_CheckEnsemble.calls (k : Nat) (A0 : Option Addr) (c0 : Nat) (l0 : List (S156)) (r : Int) (w : World) (hr0 : Kd.C k156 w A0 l0.length l0) (hc0 : l0.length ≤ c0) (h : market_CheckEnsemble.f k l0 = some r) :
  Calls Tryz.prog 24 #[.slice A0 l0.length c0] w fun e w' => e = .returned (.int .i64 r) ∧ Below w.heap.size w w' := by
 have hu156 := Tryz.underlying156
 have HR0 := Aside0.mk hr0
 have HC0 := Aside0.mk hc0
 clear hr0 hc0
 have HB := Aside0.mk (Below.refl w.heap.size w)
 have H : ((market_when.f ((l0.length : Int) == 0) 12).bind fun t101 => ((market_when.f (decide ((l0.length : Int) > 16)) 5).bind fun t102 => ((market_first.f k (([t101, t102] : List Int))).bind fun t106 => (if t106 = 0 then (market_CheckEnsemble.l0 k l0 l0 (l0.length : Int) 0) else (some t106))))) = some r := h
 clear h
 replace H := Option.bind_eq_some_iff.mp H
 obtain ⟨t101, A20, H⟩ := H
 replace H : ((market_when.f (decide ((l0.length : Int) > 16)) 5).bind fun t102 => ((market_first.f k (([t101, t102] : List Int))).bind fun t106 => (if t106 = 0 then (market_CheckEnsemble.l0 k l0 l0 (l0.length : Int) 0) else (some t106)))) = some r := H
 have A2 := Aside0.mk A20
 clear A20
 replace H := Option.bind_eq_some_iff.mp H
 obtain ⟨t102, A30, H⟩ := H
 replace H : ((market_first.f k (([t101, t102] : List Int))).bind fun t106 => (if t106 = 0 then (market_CheckEnsemble.l0 k l0 l0 (l0.length : Int) 0) else (some t106))) = some r := H
 have A3 := Aside0.mk A30
 clear A30
 obtain ⟨y103, hy103⟩ : ∃ y_ : List Int, y_ = (([t101, t102] : List Int)) := ⟨_, rfl⟩
 replace H : ((market_first.f k y103).bind fun t106 => (if t106 = 0 then (market_CheckEnsemble.l0 k l0 l0 (l0.length : Int) 0) else (some t106))) = some r := by first | (rw [hy103]; with_reducible exact H) | (have H2_ := (Option.bind_some _ _).symm.trans H; rw [hy103]; with_reducible exact H2_) | (have H2_ := (Option.bind_some _ _).symm.trans H; with_reducible exact H2_) | with_reducible exact H | (rw [hy103]; exact H) | exact H
 have Ny103 := Aside0.mk hy103
 clear hy103
 replace H := Option.bind_eq_some_iff.mp H
 obtain ⟨t106, A40, H⟩ := H
 replace H : (if t106 = 0 then (market_CheckEnsemble.l0 k l0 l0 (l0.length : Int) 0) else (some t106)) = some r := H
 have A4 := Aside0.mk A40
 clear A40
 by_cases c5 : t106 = 0
 ·rw [if_pos c5] at H
  have c5b0 : (t106 == 0) = true := beq_iff_eq.mpr c5
  have c5b1 : (t106 != 0) = false := bne_eq_false_iff_eq.mpr c5
  clear c5
  have H' := Aside0.mk H
  clear H
  go_enter Tryz.func24, Tryz.ntmps24
  go_wp2_with (first | ((with_reducible refine gate_callee (f := 90) rfl ?_); refine gl_ (some 12) Tryz.func90 #[.bool ((l0.length : Int) == 0), .int .i64 12] ?_; (with_reducible refine (market_when.calls ((l0.length : Int) == 0) 12 t101 _ A2.out).mono ?_); rintro e w' ⟨rfl, ⟨nd, rfl⟩⟩; refine ⟨_, rfl, ?_⟩) | ((with_reducible refine gate_callee (f := 90) rfl ?_); refine gl_ (some 16) Tryz.func90 #[.bool (decide ((l0.length : Int) > 16)), .int .i64 5] ?_; (with_reducible refine (market_when.calls (decide ((l0.length : Int) > 16)) 5 t102 _ A3.out).mono ?_); rintro e w' ⟨rfl, ⟨nd, rfl⟩⟩; refine ⟨_, rfl, ?_⟩) | ((with_reducible refine gate_dst (N := 17) rfl ?_); refine Kd.R_lit (Kd.int .i64) _ 28 ?hg (N := 17) ?hd (xs := ([t101, t102] : List Int)) (inner := [.int .i64 t101, .int .i64 t102]) (ok := fun _ => True) (okp := fun _ => True) ?hr ?hp (fun _ hk => hk) trivial (Below.refl _ _) (Nat.le_refl _) (by simp) ?_; (case hd => rfl); (case hg => rfl); (case hr => first | (go_simp; done) | (go_simp; rfl)); (case hp => exact (Reps.one (show Kd.M (Kd.int .i64) _ _ _ t101 [.int .i64 t101] from rfl) (Reps.one (show Kd.M (Kd.int .i64) _ _ _ t102 [.int .i64 t102] from rfl) (Reps.none _ _)))); intro v104 w6 ho7 hb hg_ hnew_; clear hg_ hnew_; (first | rw [← Ny103.out] at ho7 | (simp only [Int.reduceToNat] at ho7; rw [← Ny103.out] at ho7)); have n0_ := Aside0.mk (Kd.R_lower ho7 (below_size (ws_ HB.out))); have n1_ := Aside0.mk (below_step (ws_ HB.out) hb); clear HB; have HO105 := n0_; have HB := n1_; clear n0_ n1_; clear hb ho7; obtain ⟨Ao8, co8, eo8⟩ := Kd.R_slice HO105.out; subst eo8) | ((with_reducible refine gate_callee (f := 85) rfl ?_); refine gl_ (some 18) Tryz.func85 #[.slice Ao8 y103.length co8] ?_; (with_reducible refine (market_first.calls k _ _ y103 t106 _ ?side1 ?side2 A4.out).mono ?_); (case side1 => repeat (first | exact (Kd.R_reads' HO105.out).2.2 | (with_reducible refine Kd.C_alloc ?_ _) | (with_reducible refine Kd.C_drewN ?_ _) | (with_reducible refine Kd.C_drew ?_))); (case side2 => exact (Kd.R_reads' HO105.out).2.1); rintro e w' ⟨rfl, ⟨nd, rfl⟩⟩; refine ⟨_, rfl, ?_⟩))
  go_loopg [24] k (fun kq v24 w' => ∃ (x24_1 : Int), v24 = .int .i64 x24_1 ∧ Aside0 (market_CheckEnsemble.l0 kq l0 l0 (l0.length : Int) x24_1 = some r) ∧ Aside0 (kq ≤ k) ∧ Aside0 (Below w.heap.size w w'))
  case atStart => exact ⟨(0), (by first | rfl | (simp; done) | (simp [*]; done)), H', ⟨Nat.le_refl _⟩, ⟨by repeat (first | (with_reducible first | exact HB.out | apply below_alloc | apply pw_below_drewN | apply below_drew1) | exact HB.out)⟩⟩
  case round =>
   clear H'
   try clear c2
   try clear p2
   try clear c5
   try clear c5b0
   try clear c5b1
   try clear c8
   obtain ⟨x24_1, rfl, HA, HK1, HB⟩ := hrel
   cases gk with
   | zero => exact absurd HA.out (by simp [market_CheckEnsemble.l0])
   | succ k1 =>
    have H := HA.out
    clear HA
    simp only [market_CheckEnsemble.l0] at H
    by_cases c9 : x24_1 < (l0.length : Int)
    ·rw [if_pos c9] at H
     have c9b0 : decide (x24_1 < (l0.length : Int)) = true := decide_eq_true c9
     clear c9
     by_cases c10 : 0 ≤ x24_1
     ·rw [if_pos c10] at H
      have c10b0 : decide (0 ≤ x24_1) = true := decide_eq_true c10
      clear c10
      by_cases c11 : x24_1 < (l0.length : Int)
      ·rw [if_pos c11] at H
       have c11b0 : decide (x24_1 < (l0.length : Int)) = true := decide_eq_true c11
       clear c11
       replace H := Option.bind_eq_some_iff.mp H
       obtain ⟨t109, A120, H⟩ := H
       replace H : ((market_when.f ((((rd_T156 l0 x24_1).f1).length : Int) == 0) 12).bind fun t110 => ((market_when.f (decide ((((rd_T156 l0 x24_1).f1).length : Int) > 96)) 5).bind fun t111 => (if 0 < (l0.length : Int) then ((market_when.f ((((rd_T156 l0 x24_1).f1).length : Int) != (((rd_T156 l0 0).f1).length : Int)) 2).bind fun t113 => ((market_first.f k1 (([t109, t110, t111, t113] : List Int))).bind fun t117 => (if t117 = 0 then ((api_Errno_92__market_checkEnergy.f k1 ((rd_T156 l0 x24_1).f1) ()).bind fun t118 => ((market_first.f k1 t118).bind fun t121 => (if t121 = 0 then (market_CheckEnsemble.l0 k1 l0 l0 (l0.length : Int) (wrap64 (x24_1 + 1))) else (some t121)))) else (some t117)))) else (none)))) = some r := H
       have A12 := Aside0.mk A120
       clear A120
       replace H := Option.bind_eq_some_iff.mp H
       obtain ⟨t110, A130, H⟩ := H
       replace H : ((market_when.f (decide ((((rd_T156 l0 x24_1).f1).length : Int) > 96)) 5).bind fun t111 => (if 0 < (l0.length : Int) then ((market_when.f ((((rd_T156 l0 x24_1).f1).length : Int) != (((rd_T156 l0 0).f1).length : Int)) 2).bind fun t113 => ((market_first.f k1 (([t109, t110, t111, t113] : List Int))).bind fun t117 => (if t117 = 0 then ((api_Errno_92__market_checkEnergy.f k1 ((rd_T156 l0 x24_1).f1) ()).bind fun t118 => ((market_first.f k1 t118).bind fun t121 => (if t121 = 0 then (market_CheckEnsemble.l0 k1 l0 l0 (l0.length : Int) (wrap64 (x24_1 + 1))) else (some t121)))) else (some t117)))) else (none))) = some r := H
       have A13 := Aside0.mk A130
       clear A130
       replace H := Option.bind_eq_some_iff.mp H
       obtain ⟨t111, A140, H⟩ := H
       replace H : (if 0 < (l0.length : Int) then ((market_when.f ((((rd_T156 l0 x24_1).f1).length : Int) != (((rd_T156 l0 0).f1).length : Int)) 2).bind fun t113 => ((market_first.f k1 (([t109, t110, t111, t113] : List Int))).bind fun t117 => (if t117 = 0 then ((api_Errno_92__market_checkEnergy.f k1 ((rd_T156 l0 x24_1).f1) ()).bind fun t118 => ((market_first.f k1 t118).bind fun t121 => (if t121 = 0 then (market_CheckEnsemble.l0 k1 l0 l0 (l0.length : Int) (wrap64 (x24_1 + 1))) else (some t121)))) else (some t117)))) else (none)) = some r := H
       have A14 := Aside0.mk A140
       clear A140
       by_cases c15 : 0 < (l0.length : Int)
       ·rw [if_pos c15] at H
        have c15b0 : decide (0 < (l0.length : Int)) = true := decide_eq_true c15
        have c15b1 : decide (0 < l0.length) = true := decide_eq_true (by omega)
        clear c15
        replace H := Option.bind_eq_some_iff.mp H
        obtain ⟨t113, A160, H⟩ := H
        replace H : ((market_first.f k1 (([t109, t110, t111, t113] : List Int))).bind fun t117 => (if t117 = 0 then ((api_Errno_92__market_checkEnergy.f k1 ((rd_T156 l0 x24_1).f1) ()).bind fun t118 => ((market_first.f k1 t118).bind fun t121 => (if t121 = 0 then (market_CheckEnsemble.l0 k1 l0 l0 (l0.length : Int) (wrap64 (x24_1 + 1))) else (some t121)))) else (some t117))) = some r := H
        have A16 := Aside0.mk A160
        clear A160
        obtain ⟨y114, hy114⟩ : ∃ y_ : List Int, y_ = (([t109, t110, t111, t113] : List Int)) := ⟨_, rfl⟩
        replace H : ((market_first.f k1 y114).bind fun t117 => (if t117 = 0 then ((api_Errno_92__market_checkEnergy.f k1 ((rd_T156 l0 x24_1).f1) ()).bind fun t118 => ((market_first.f k1 t118).bind fun t121 => (if t121 = 0 then (market_CheckEnsemble.l0 k1 l0 l0 (l0.length : Int) (wrap64 (x24_1 + 1))) else (some t121)))) else (some t117))) = some r := by first | (rw [hy114]; with_reducible exact H) | (have H2_ := (Option.bind_some _ _).symm.trans H; rw [hy114]; with_reducible exact H2_) | (have H2_ := (Option.bind_some _ _).symm.trans H; with_reducible exact H2_) | with_reducible exact H | (rw [hy114]; exact H) | exact H
        have Ny114 := Aside0.mk hy114
        clear hy114
        replace H := Option.bind_eq_some_iff.mp H
        obtain ⟨t117, A170, H⟩ := H
        replace H : (if t117 = 0 then ((api_Errno_92__market_checkEnergy.f k1 ((rd_T156 l0 x24_1).f1) ()).bind fun t118 => ((market_first.f k1 t118).bind fun t121 => (if t121 = 0 then (market_CheckEnsemble.l0 k1 l0 l0 (l0.length : Int) (wrap64 (x24_1 + 1))) else (some t121)))) else (some t117)) = some r := H
        have A17 := Aside0.mk A170
        clear A170
        by_cases c18 : t117 = 0
        ·rw [if_pos c18] at H
         have c18b0 : (t117 == 0) = true := beq_iff_eq.mpr c18
         have c18b1 : (t117 != 0) = false := bne_eq_false_iff_eq.mpr c18
         clear c18
         replace H := Option.bind_eq_some_iff.mp H
         obtain ⟨t118, A190, H⟩ := H
         replace H : ((market_first.f k1 t118).bind fun t121 => (if t121 = 0 then (market_CheckEnsemble.l0 k1 l0 l0 (l0.length : Int) (wrap64 (x24_1 + 1))) else (some t121))) = some r := H
         have A19 := Aside0.mk A190
         clear A190
         replace H := Option.bind_eq_some_iff.mp H
         obtain ⟨t121, A200, H⟩ := H
         replace H : (if t121 = 0 then (market_CheckEnsemble.l0 k1 l0 l0 (l0.length : Int) (wrap64 (x24_1 + 1))) else (some t121)) = some r := H
         have A20 := Aside0.mk A200
         clear A200
         by_cases c21 : t121 = 0
         ·rw [if_pos c21] at H
          have c21b0 : (t121 == 0) = true := beq_iff_eq.mpr c21
          have c21b1 : (t121 != 0) = false := bne_eq_false_iff_eq.mpr c21
          clear c21
          have H' := Aside0.mk H
          clear H
          have p107 : 0 ≤ (x24_1 : Int) := of_decide_eq_true (by first | (with_reducible assumption) | assumption)
          have q107 : x24_1 < (l0.length : Int) := of_decide_eq_true (by first | (with_reducible assumption) | assumption)
          obtain ⟨ad107, A107_1, c107_1, e107, hx107_0, hx107_1, hl107_1, hi107_1⟩ := at_T156 HR0.out x24_1 p107 q107
          cases e107
          replace hx107_0 := (HB.out.cell (World.block_lt_of_cell? w _ hx107_0)).trans hx107_0
          replace hx107_1 := (HB.out.cell (World.block_lt_of_cell? w _ hx107_1)).trans hx107_1
          have HR107_1 := Aside0.mk hi107_1
          have HC107_1 := Aside0.mk hl107_1
          clear hi107_1 hl107_1
          replace p107 := eq_true p107
          replace q107 := eq_true q107
          try go_wp2_with (first | ((with_reducible refine gate_dst (N := 5) rfl ?_); refine box_event ?hg (N := 5) ?hd (cs := #[.int .i64 0, .slice none 0 0]) (t := 156) ?hr ?_; (case hd => rfl); (case hg => rfl); (case hr => first | (go_simp; done) | (go_simp; rfl)); intro gb108 hg w22 hbox hb; have n0_ := Aside0.mk (below_step (ws_ HB.out) hb); have n1_ := Aside0.mk (hbox); have n2_ := Aside0.mk ((by rw [hg]; exact (below_size (ws_ HB.out)) : w.heap.size ≤ gb108)); have n3_ := Aside0.mk ((by rw [hg]; exact (below_size (ws_ HB.out)) : w.heap.size ≤ gb108)); clear HB; have HB := n0_; have BK108 := n1_; have GW108 := n2_; have GE108 := n3_; clear n0_ n1_ n2_ n3_; clear hb hbox hg; have hcz23_0 : w22.cell? ⟨gb108, 0, none⟩ = some (.int .i64 0) := (blk_cell BK108.out 0).trans rfl; have hcz23_1 : w22.cell? ⟨gb108, 1, none⟩ = some (.slice none 0 0) := (blk_cell BK108.out 1).trans rfl; have hfz23_0 := blk_frozen BK108.out 0; have hfz23_1 := blk_frozen BK108.out 1))
          have n0_ : Aside0 (((w22.setCell ⟨gb108, 0, none⟩ (.int .i64 ((rd_T156 l0 x24_1).f0))).setCell ⟨gb108, 1, none⟩ (.slice A107_1 ((rd_T156 l0 x24_1).f1).length c107_1)).heap[gb108]? = some (.cells #[.int .i64 ((rd_T156 l0 x24_1).f0), .slice A107_1 ((rd_T156 l0 x24_1).f1).length c107_1] 156 (0, 0))) := ⟨by (with_reducible repeat (first | refine blk_drewN ?_ _ | refine blk_drew ?_ | refine blk_alloc ?_ _)); refine blk_put (cs := #[.int .i64 ((rd_T156 l0 x24_1).f0), .slice none 0 0]) ?_ 1 _ rfl; (with_reducible repeat (first | refine blk_drewN ?_ _ | refine blk_drew ?_ | refine blk_alloc ?_ _)); refine blk_put (cs := #[.int .i64 0, .slice none 0 0]) ?_ 0 _ rfl; (with_reducible repeat (first | refine blk_drewN ?_ _ | refine blk_drew ?_ | refine blk_alloc ?_ _)); exact BK108.out⟩
          have n1_ : Aside0 (Below w.heap.size w ((w22.setCell ⟨gb108, 0, none⟩ (.int .i64 ((rd_T156 l0 x24_1).f0))).setCell ⟨gb108, 1, none⟩ (.slice A107_1 ((rd_T156 l0 x24_1).f1).length c107_1))) := ⟨by repeat (first | (with_reducible first | exact HB.out | apply below_alloc | apply pw_below_drewN | apply below_drew1 | refine below_set ?_ GE108.out) | exact HB.out)⟩
          (try clear BK108)
          (try clear HB)
          generalize ((w22.setCell ⟨gb108, 0, none⟩ (.int .i64 ((rd_T156 l0 x24_1).f0))).setCell ⟨gb108, 1, none⟩ (.slice A107_1 ((rd_T156 l0 x24_1).f1).length c107_1)) = w24 at n0_ n1_ ⊢
          have BK108 := n0_
          have HB := n1_
          clear n0_ n1_
          have n0_ := Aside0.mk (blk_drew BK108.out)
          have n1_ := Aside0.mk (below_drew1 HB.out)
          clear BK108
          clear HB
          have BK108 := n0_
          have HB := n1_
          clear n0_ n1_
          have p112 : 0 ≤ (0 : Int) := (by omega)
          have q112 : 0 < (l0.length : Int) := of_decide_eq_true (by first | (with_reducible assumption) | assumption)
          obtain ⟨ad112, A112_1, c112_1, e112, hx112_0, hx112_1, hl112_1, hi112_1⟩ := at_T156 HR0.out 0 p112 q112
          have hw112_1 := hx112_1
          (try rw [show ((0 : Int)).toNat = 0 from rfl] at hw112_1)
          (try rw [show 0 * 2 = 0 from rfl] at hw112_1)
          (try rw [Addr.add_zero'] at hw112_1)
          have hw112_0 := hx112_0
          (try rw [show ((0 : Int)).toNat = 0 from rfl] at hw112_0)
          (try rw [show 0 * 2 = 0 from rfl] at hw112_0)
          (try rw [Addr.add_zero'] at hw112_0)
          obtain rfl : ad107 = ad112 := (by injection e112)
          have qi112 : (0 < l0.length) = True := eq_true (by omega)
          (try rw [show ((0 : Int)).toNat = 0 from rfl] at hx112_0)
          (try rw [show 0 * 2 = 0 from rfl] at hx112_0)
          (try rw [Addr.add_zero'] at hx112_0)
          (try rw [show ((0 : Int)).toNat = 0 from rfl] at hx112_1)
          (try rw [show 0 * 2 = 0 from rfl] at hx112_1)
          (try rw [Addr.add_zero'] at hx112_1)
          replace hx112_0 := (HB.out.cell (World.block_lt_of_cell? w _ hx112_0)).trans hx112_0
          replace hx112_1 := (HB.out.cell (World.block_lt_of_cell? w _ hx112_1)).trans hx112_1
          have HR112_1 := Aside0.mk hi112_1
          have HC112_1 := Aside0.mk hl112_1
          clear hi112_1 hl112_1
          replace p112 := eq_true p112
          replace q112 := eq_true q112
          refine start_ (n := 20) (S := fun w' => w'.cell? ⟨gb108, 0, none⟩ = some (.int .i64 ((rd_T156 l0 x24_1).f0)) ∧ w'.cell? ⟨gb108, 1, none⟩ = some (.slice A107_1 ((rd_T156 l0 x24_1).f1).length c107_1) ∧ w'.cell? ad107 = some (.int .i64 ((rd_T156 l0 0).f0)) ∧ w'.cell? ⟨ad107.block, ad107.off + 1, none⟩ = some (.slice A112_1 ((rd_T156 l0 0).f1).length c112_1)) (ds := []) #[false, false, false, false, false, false, false, false, false, false, false, false, false, false, false, false, false, false, false, false] (by kernel_rfl) rfl rfl ⟨(blk_cell BK108.out 0).trans rfl, (blk_cell BK108.out 1).trans rfl, ((HB.out.cell (World.block_lt_of_cell? w _ hw112_0)).trans hw112_0), ((HB.out.cell (World.block_lt_of_cell? w _ hw112_1)).trans hw112_1)⟩ (fun hHeld => ?_); refine with_tabW market_CheckEnsemble.tab8 market_CheckEnsemble.bits8 (fun HT_ HW_ => ?_)
          generalize w24.drew = w25 at BK108 HB HR112_1 hx112_0 hx112_1 hHeld ⊢
          refine pv_ 0 31 #[true, false, false, false, false, false, false, false, false, false, false, false, false, false, false, false, false, false, false, false] (any_of HT_.out (by kernel_rfl)) ?_
          refine pv_ 3 34 #[true, false, false, true, false, false, false, false, false, false, false, false, false, false, false, false, false, false, false, false] (any_of HT_.out (by kernel_rfl)) ?_
          refine pv_ 4 35 #[true, false, false, true, true, false, false, false, false, false, false, false, false, false, false, false, false, false, false, false] (any_of HT_.out (by kernel_rfl)) ?_
          refine pv_ 6 37 #[true, false, false, true, true, false, true, false, false, false, false, false, false, false, false, false, false, false, false, false] (any_of HT_.out (by kernel_rfl)) ?_
          refine pv_ 7 38 #[true, false, false, true, true, false, true, true, false, false, false, false, false, false, false, false, false, false, false, false] (any_of HT_.out (by kernel_rfl)) ?_
          refine pv_ 9 40 #[true, false, false, true, true, false, true, true, false, true, false, false, false, false, false, false, false, false, false, false] (any_of HT_.out (by kernel_rfl)) ?_
          refine pv_ 10 41 #[true, false, false, true, true, false, true, true, false, true, true, false, false, false, false, false, false, false, false, false] (any_of HT_.out (by kernel_rfl)) ?_
          refine pv_ 11 42 #[true, false, false, true, true, false, true, true, false, true, true, true, false, false, false, false, false, false, false, false] (any_of HT_.out (by kernel_rfl)) ?_
          refine pv_ 12 43 #[true, false, false, true, true, false, true, true, false, true, true, true, true, false, false, false, false, false, false, false] (any_of HT_.out (by kernel_rfl)) ?_
          refine take_ (i := 1) (N := some 32) (v := ?_) (a' := ?_) #[true, true, false, true, true, false, true, true, false, true, true, true, true, false, false, false, false, false, false, false] rfl rfl (take_ofW HT_.out HW_.out (by kernel_rfl)) (fun _ _ _ h => h) (Or.inl ⟨by rfl, ?_⟩) hHeld ?_ ?_
          rotate_left
          ·rintro w' ⟨s0, s1, s2, s3⟩
           go_simp
           with_reducible rfl
          rotate_left
          ·simp only [Act.put, List.setIfInBounds_toArray, List.set_cons_zero, List.set_cons_succ, i64_w, i32_w]
           rfl
          refine take_ (i := 13) (N := some 44) (v := ?_) (a' := ?_) #[true, true, false, true, true, false, true, true, false, true, true, true, true, true, false, false, false, false, false, false] rfl rfl (take_ofW HT_.out HW_.out (by kernel_rfl)) (fun _ _ _ h => h) (Or.inl ⟨by rfl, ?_⟩) hHeld ?_ ?_
          rotate_left
          ·rintro w' ⟨s0, s1, s2, s3⟩
           go_simp
           with_reducible rfl
          rotate_left
          ·simp only [Act.put, List.setIfInBounds_toArray, List.set_cons_zero, List.set_cons_succ, i64_w, i32_w]
           rfl
          refine pv_ 14 45 #[true, true, false, true, true, false, true, true, false, true, true, true, true, true, true, false, false, false, false, false] (any_of HT_.out (by kernel_rfl)) ?_
          refine pv_ 15 46 #[true, true, false, true, true, false, true, true, false, true, true, true, true, true, true, true, false, false, false, false] (any_of HT_.out (by kernel_rfl)) ?_
          refine one_ (i := 2) (N := some 33) #[true, true, true, true, true, false, true, true, false, true, true, true, true, true, true, true, false, false, false, false] rfl rfl (one_of HT_.out (by kernel_rfl)) (by decide) (fun K hK => ?_)
          refine goes_ Tryz.func91 (by kernel_rfl) rfl #[.int .i64 ((rd_T156 l0 x24_1).f0), .int .i64 1, .int .i64 1000] (by rfl) rfl rfl (by (try simp only [List.map_toArray, List.map_cons, List.map_nil]); first | done | rfl | (simp only [List.length_drop, List.length_take]; rfl)) ?_
          with_reducible refine (market_within.calls ((rd_T156 l0 x24_1).f0) 1 1000 t109 _ A12.out).mono ?_
          rintro e w' ⟨rfl, ⟨nd, rfl⟩⟩
          refine ⟨_, rfl, ?_⟩
          refine hK.out _ _ ⟨(blk_cell BK108.out 0).trans rfl, (blk_cell BK108.out 1).trans rfl, ((HB.out.cell (World.block_lt_of_cell? w _ hw112_0)).trans hw112_0), ((HB.out.cell (World.block_lt_of_cell? w _ hw112_1)).trans hw112_1)⟩ (fun hHeld => ?_)
          clear hK K
          refine norm_ (a' := ?_) ?_ ?_
          rotate_left
          ·show Act.put _ (some 33) _ = _
           simp only [Act.put, List.setIfInBounds_toArray, List.set_cons_zero, List.set_cons_succ, i64_w, i32_w]
           rfl
          refine one_ (i := 5) (N := some 36) #[true, true, true, true, true, true, true, true, false, true, true, true, true, true, true, true, false, false, false, false] rfl rfl (one_of HT_.out (by kernel_rfl)) (by decide) (fun K hK => ?_)
          refine goes_ Tryz.func90 (by kernel_rfl) rfl #[.bool ((((rd_T156 l0 x24_1).f1).length : Int) == 0), .int .i64 12] (by rfl) rfl rfl (by (try simp only [List.map_toArray, List.map_cons, List.map_nil]); first | done | rfl | (simp only [List.length_drop, List.length_take]; rfl)) ?_
          with_reducible refine (market_when.calls ((((rd_T156 l0 x24_1).f1).length : Int) == 0) 12 t110 _ A13.out).mono ?_
          rintro e w' ⟨rfl, ⟨nd, rfl⟩⟩
          refine ⟨_, rfl, ?_⟩
          refine hK.out _ _ ⟨(blk_cell BK108.out 0).trans rfl, (blk_cell BK108.out 1).trans rfl, ((HB.out.cell (World.block_lt_of_cell? w _ hw112_0)).trans hw112_0), ((HB.out.cell (World.block_lt_of_cell? w _ hw112_1)).trans hw112_1)⟩ (fun hHeld => ?_)
          clear hK K
          refine norm_ (a' := ?_) ?_ ?_
          rotate_left
          ·show Act.put _ (some 36) _ = _
           simp only [Act.put, List.setIfInBounds_toArray, List.set_cons_zero, List.set_cons_succ, i64_w, i32_w]
           rfl
          refine one_ (i := 8) (N := some 39) #[true, true, true, true, true, true, true, true, true, true, true, true, true, true, true, true, false, false, false, false] rfl rfl (one_of HT_.out (by kernel_rfl)) (by decide) (fun K hK => ?_)
          refine goes_ Tryz.func90 (by kernel_rfl) rfl #[.bool (decide ((((rd_T156 l0 x24_1).f1).length : Int) > 96)), .int .i64 5] (by rfl) rfl rfl (by (try simp only [List.map_toArray, List.map_cons, List.map_nil]); first | done | rfl | (simp only [List.length_drop, List.length_take]; rfl)) ?_
          with_reducible refine (market_when.calls (decide ((((rd_T156 l0 x24_1).f1).length : Int) > 96)) 5 t111 _ A14.out).mono ?_
          rintro e w' ⟨rfl, ⟨nd, rfl⟩⟩
          refine ⟨_, rfl, ?_⟩
          refine hK.out _ _ ⟨(blk_cell BK108.out 0).trans rfl, (blk_cell BK108.out 1).trans rfl, ((HB.out.cell (World.block_lt_of_cell? w _ hw112_0)).trans hw112_0), ((HB.out.cell (World.block_lt_of_cell? w _ hw112_1)).trans hw112_1)⟩ (fun hHeld => ?_)
          clear hK K
          refine norm_ (a' := ?_) ?_ ?_
          rotate_left
          ·show Act.put _ (some 39) _ = _
           simp only [Act.put, List.setIfInBounds_toArray, List.set_cons_zero, List.set_cons_succ, i64_w, i32_w]
           rfl
          refine one_ (i := 16) (N := some 47) #[true, true, true, true, true, true, true, true, true, true, true, true, true, true, true, true, true, false, false, false] rfl rfl (one_of HT_.out (by kernel_rfl)) (by decide) (fun K hK => ?_)
          refine goes_ Tryz.func90 (by kernel_rfl) rfl #[.bool ((((rd_T156 l0 x24_1).f1).length : Int) != (((rd_T156 l0 0).f1).length : Int)), .int .i64 2] (by rfl) rfl rfl (by (try simp only [List.map_toArray, List.map_cons, List.map_nil]); first | done | rfl | (simp only [List.length_drop, List.length_take]; rfl)) ?_
          with_reducible refine (market_when.calls ((((rd_T156 l0 x24_1).f1).length : Int) != (((rd_T156 l0 0).f1).length : Int)) 2 t113 _ A16.out).mono ?_
          rintro e w' ⟨rfl, ⟨nd, rfl⟩⟩
          refine ⟨_, rfl, ?_⟩
          refine hK.out _ _ ⟨(blk_cell BK108.out 0).trans rfl, (blk_cell BK108.out 1).trans rfl, ((HB.out.cell (World.block_lt_of_cell? w _ hw112_0)).trans hw112_0), ((HB.out.cell (World.block_lt_of_cell? w _ hw112_1)).trans hw112_1)⟩ (fun hHeld => ?_)
          clear hK K
          refine norm_ (a' := ?_) ?_ ?_
          rotate_left
          ·show Act.put _ (some 47) _ = _
           simp only [Act.put, List.setIfInBounds_toArray, List.set_cons_zero, List.set_cons_succ, i64_w, i32_w]
           rfl
          refine one_ (i := 17) (N := some 48) #[true, true, true, true, true, true, true, true, true, true, true, true, true, true, true, true, true, true, false, false] rfl rfl (one_of HT_.out (by kernel_rfl)) (by decide) (fun K hK => ?_)
          refine Kd.R_lit_step (Kd.int .i64) _ 28 ?hg (N := 48) ?hd (xs := ([t109, t110, t111, t113] : List Int)) (inner := [.int .i64 t109, .int .i64 t110, .int .i64 t111, .int .i64 t113]) (ok := fun _ => True) (okp := fun _ => True) ?hr ?hp (fun _ hk => hk) trivial (Below.refl _ _) (Nat.le_refl _) (by simp) ?_; (case hd => rfl); (case hg => rfl); (case hr => first | (go_simp; done) | (go_simp; rfl)); (case hp => exact (Reps.one (show Kd.M (Kd.int .i64) _ _ _ t109 [.int .i64 t109] from rfl) (Reps.one (show Kd.M (Kd.int .i64) _ _ _ t110 [.int .i64 t110] from rfl) (Reps.one (show Kd.M (Kd.int .i64) _ _ _ t111 [.int .i64 t111] from rfl) (Reps.one (show Kd.M (Kd.int .i64) _ _ _ t113 [.int .i64 t113] from rfl) (Reps.none _ _))))))
          intro v115 w26 ho27 hb hg_ hnew_
          clear hg_ hnew_
          (first | rw [← Ny114.out] at ho27 | (simp only [Int.reduceToNat] at ho27; rw [← Ny114.out] at ho27))
          have n0_ := Aside0.mk (Kd.R_lower ho27 (below_size (wg_ HB.out GE108.out)))
          have n1_ := Aside0.mk (blk_below (g := gb108) (o := .cells #[.int .i64 ((rd_T156 l0 x24_1).f0), .slice A107_1 ((rd_T156 l0 x24_1).f1).length c107_1] 156 (0, 0)) (bs_ BK108.out) hb)
          have n2_ := Aside0.mk (below_step (wg_ HB.out GE108.out) hb)
          clear BK108
          clear HB
          have HO116 := n0_
          have BK108 := n1_
          have HB := n2_
          clear n0_ n1_ n2_
          clear hb ho27
          obtain ⟨Ao28, co28, eo28⟩ := Kd.R_slice HO116.out
          (first | subst eo28 | (injection eo28 with f1_ f2_ f3_; have f4_ := f1_.symm; have f5_ := f3_.symm; clear f1_ f2_ f3_; subst f4_; subst f5_))
          refine hK.out _ _ ⟨(blk_cell BK108.out 0).trans rfl, (blk_cell BK108.out 1).trans rfl, ((HB.out.cell (World.block_lt_of_cell? w _ hw112_0)).trans hw112_0), ((HB.out.cell (World.block_lt_of_cell? w _ hw112_1)).trans hw112_1)⟩ (fun hHeld => ?_)
          clear hK K
          refine norm_ (a' := ?_) ?_ ?_
          rotate_left
          ·show Act.put _ (some 48) _ = _
           simp only [Act.put, List.setIfInBounds_toArray, List.set_cons_zero, List.set_cons_succ, i64_w, i32_w]
           rfl
          refine one_ (i := 18) (N := some 49) #[true, true, true, true, true, true, true, true, true, true, true, true, true, true, true, true, true, true, true, false] rfl rfl (one_of HT_.out (by kernel_rfl)) (by decide) (fun K hK => ?_)
          refine goes_ Tryz.func85 (by kernel_rfl) rfl #[.slice Ao28 y114.length co28] (by rfl) rfl rfl (by (try simp only [List.map_toArray, List.map_cons, List.map_nil]); first | done | rfl | (simp only [List.length_drop, List.length_take]; rfl)) ?_
          with_reducible refine (market_first.calls k1 _ _ y114 t117 _ ?side1 ?side2 A17.out).mono ?_
          (case side1 => repeat (first | exact (Kd.R_reads' HO116.out).2.2 | (with_reducible refine Kd.C_alloc ?_ _) | (with_reducible refine Kd.C_drewN ?_ _) | (with_reducible refine Kd.C_drew ?_)))
          (case side2 => exact (Kd.R_reads' HO116.out).2.1)
          rintro e w' ⟨rfl, ⟨nd, rfl⟩⟩
          refine ⟨_, rfl, ?_⟩
          refine hK.out _ _ ⟨(blk_cell BK108.out 0).trans rfl, (blk_cell BK108.out 1).trans rfl, ((HB.out.cell (World.block_lt_of_cell? w _ hw112_0)).trans hw112_0), ((HB.out.cell (World.block_lt_of_cell? w _ hw112_1)).trans hw112_1)⟩ (fun hHeld => ?_)
          clear hK K
          refine norm_ (a' := ?_) ?_ ?_
          rotate_left
          ·show Act.put _ (some 49) _ = _
           simp only [Act.put, List.setIfInBounds_toArray, List.set_cons_zero, List.set_cons_succ, i64_w, i32_w]
           rfl
          refine pv_ 19 7 #[true, true, true, true, true, true, true, true, true, true, true, true, true, true, true, true, true, true, true, true] (any_of HT_.out (by kernel_rfl)) ?_
          refine done_ (done_of HT_.out (by kernel_rfl)) ?_
          have hcz29_0 : w26.cell? ⟨gb108, 0, none⟩ = some (.int .i64 ((rd_T156 l0 x24_1).f0)) := (blk_cell BK108.out 0).trans rfl
          have hcz29_1 : w26.cell? ⟨gb108, 1, none⟩ = some (.slice A107_1 ((rd_T156 l0 x24_1).f1).length c107_1) := (blk_cell BK108.out 1).trans rfl
          have hfz29_0 := blk_frozen BK108.out 0
          have hfz29_1 := blk_frozen BK108.out 1
          try go_wp2_with (first | ((with_reducible refine gate_callee (f := 92) rfl ?_); refine gl_ (some 55) Tryz.func92 #[.slice A107_1 ((rd_T156 l0 x24_1).f1).length c107_1, .func (.func 86) #[] #[]] ?_; (with_reducible refine (api_Errno_92__market_checkEnergy.calls k1 _ _ ((rd_T156 l0 x24_1).f1) () t118 _ ?side1 ?side2 A19.out).mono ?_); (case side1 => repeat (first | exact (Kd.C_below HR107_1.out (wg_ HB.out GE108.out)) | (with_reducible refine Kd.C_alloc ?_ _) | (with_reducible refine Kd.C_drewN ?_ _) | (with_reducible refine Kd.C_drew ?_))); (case side2 => exact HC107_1.out); rintro e w30 ⟨v119, rfl, ho0, hb⟩; refine ⟨_, rfl, ?_⟩; have n0_ := Aside0.mk (Kd.R_elder' (rs_ HO116.out) (Kd.R_base ho0) hb); have n1_ := Aside0.mk (Kd.R_lower (Kd.R_new' ho0 (Kd.R_lt (rs_ HO116.out))) (below_size (wg_ HB.out GE108.out))); have n2_ := Aside0.mk (blk_below (g := gb108) (o := .cells #[.int .i64 ((rd_T156 l0 x24_1).f0), .slice A107_1 ((rd_T156 l0 x24_1).f1).length c107_1] 156 (0, 0)) (bs_ BK108.out) hb); have n3_ := Aside0.mk (below_step (wg_ HB.out GE108.out) hb); clear HO116; clear BK108; clear HB; have HO116 := n0_; have HO120 := n1_; have BK108 := n2_; have HB := n3_; clear n0_ n1_ n2_ n3_; (try clear hb); (try clear hb2); (try clear hk); (try clear hi); (try clear ho0); obtain ⟨Ao31, co31, eo31⟩ := Kd.R_slice HO120.out; subst eo31) | ((with_reducible refine gate_callee (f := 85) rfl ?_); refine gl_ (some 56) Tryz.func85 #[.slice Ao31 t118.length co31] ?_; (with_reducible refine (market_first.calls k1 _ _ t118 t121 _ ?side1 ?side2 A20.out).mono ?_); (case side1 => repeat (first | exact (Kd.R_reads' HO120.out).2.2 | (with_reducible refine Kd.C_alloc ?_ _) | (with_reducible refine Kd.C_drewN ?_ _) | (with_reducible refine Kd.C_drew ?_))); (case side2 => exact (Kd.R_reads' HO120.out).2.1); rintro e w' ⟨rfl, ⟨nd, rfl⟩⟩; refine ⟨_, rfl, ?_⟩))
          go_roundg k1
          case measure => have := HK1.out; omega
          case rel => exact ⟨(wrap64 (x24_1 + 1)), (by first | rfl | (simp; done) | (simp [*]; done)), H', ⟨by have := HK1.out; omega⟩, ⟨by repeat (first | (with_reducible first | exact HB.out | apply below_alloc | apply pw_below_drewN | apply below_drew1 | refine below_set ?_ GE108.out) | exact HB.out)⟩⟩
         ·rw [if_neg c21] at H
          have c21b0 : (t121 == 0) = false := beq_eq_false_iff_ne.mpr c21
          have c21b1 : (t121 != 0) = true := bne_iff_ne.mpr c21
          obtain rfl := Option.some.inj H
          have p107 : 0 ≤ (x24_1 : Int) := of_decide_eq_true (by first | (with_reducible assumption) | assumption)
          have q107 : x24_1 < (l0.length : Int) := of_decide_eq_true (by first | (with_reducible assumption) | assumption)
          obtain ⟨ad107, A107_1, c107_1, e107, hx107_0, hx107_1, hl107_1, hi107_1⟩ := at_T156 HR0.out x24_1 p107 q107
          cases e107
          replace hx107_0 := (HB.out.cell (World.block_lt_of_cell? w _ hx107_0)).trans hx107_0
          replace hx107_1 := (HB.out.cell (World.block_lt_of_cell? w _ hx107_1)).trans hx107_1
          have HR107_1 := Aside0.mk hi107_1
          have HC107_1 := Aside0.mk hl107_1
          clear hi107_1 hl107_1
          replace p107 := eq_true p107
          replace q107 := eq_true q107
          try go_wp2_with (first | ((with_reducible refine gate_dst (N := 5) rfl ?_); refine box_event ?hg (N := 5) ?hd (cs := #[.int .i64 0, .slice none 0 0]) (t := 156) ?hr ?_; (case hd => rfl); (case hg => rfl); (case hr => first | (go_simp; done) | (go_simp; rfl)); intro gb108 hg w32 hbox hb; have n0_ := Aside0.mk (below_step (ws_ HB.out) hb); have n1_ := Aside0.mk (hbox); have n2_ := Aside0.mk ((by rw [hg]; exact (below_size (ws_ HB.out)) : w.heap.size ≤ gb108)); have n3_ := Aside0.mk ((by rw [hg]; exact (below_size (ws_ HB.out)) : w.heap.size ≤ gb108)); clear HB; have HB := n0_; have BK108 := n1_; have GW108 := n2_; have GE108 := n3_; clear n0_ n1_ n2_ n3_; clear hb hbox hg; have hcz33_0 : w32.cell? ⟨gb108, 0, none⟩ = some (.int .i64 0) := (blk_cell BK108.out 0).trans rfl; have hcz33_1 : w32.cell? ⟨gb108, 1, none⟩ = some (.slice none 0 0) := (blk_cell BK108.out 1).trans rfl; have hfz33_0 := blk_frozen BK108.out 0; have hfz33_1 := blk_frozen BK108.out 1))
          have n0_ : Aside0 (((w32.setCell ⟨gb108, 0, none⟩ (.int .i64 ((rd_T156 l0 x24_1).f0))).setCell ⟨gb108, 1, none⟩ (.slice A107_1 ((rd_T156 l0 x24_1).f1).length c107_1)).heap[gb108]? = some (.cells #[.int .i64 ((rd_T156 l0 x24_1).f0), .slice A107_1 ((rd_T156 l0 x24_1).f1).length c107_1] 156 (0, 0))) := ⟨by (with_reducible repeat (first | refine blk_drewN ?_ _ | refine blk_drew ?_ | refine blk_alloc ?_ _)); refine blk_put (cs := #[.int .i64 ((rd_T156 l0 x24_1).f0), .slice none 0 0]) ?_ 1 _ rfl; (with_reducible repeat (first | refine blk_drewN ?_ _ | refine blk_drew ?_ | refine blk_alloc ?_ _)); refine blk_put (cs := #[.int .i64 0, .slice none 0 0]) ?_ 0 _ rfl; (with_reducible repeat (first | refine blk_drewN ?_ _ | refine blk_drew ?_ | refine blk_alloc ?_ _)); exact BK108.out⟩
          have n1_ : Aside0 (Below w.heap.size w ((w32.setCell ⟨gb108, 0, none⟩ (.int .i64 ((rd_T156 l0 x24_1).f0))).setCell ⟨gb108, 1, none⟩ (.slice A107_1 ((rd_T156 l0 x24_1).f1).length c107_1))) := ⟨by repeat (first | (with_reducible first | exact HB.out | apply below_alloc | apply pw_below_drewN | apply below_drew1 | refine below_set ?_ GE108.out) | exact HB.out)⟩
          (try clear BK108)
          (try clear HB)
          generalize ((w32.setCell ⟨gb108, 0, none⟩ (.int .i64 ((rd_T156 l0 x24_1).f0))).setCell ⟨gb108, 1, none⟩ (.slice A107_1 ((rd_T156 l0 x24_1).f1).length c107_1)) = w34 at n0_ n1_ ⊢
          have BK108 := n0_
          have HB := n1_
          clear n0_ n1_
          have n0_ := Aside0.mk (blk_drew BK108.out)
          have n1_ := Aside0.mk (below_drew1 HB.out)
          clear BK108
          clear HB
          have BK108 := n0_
          have HB := n1_
          clear n0_ n1_
          have p112 : 0 ≤ (0 : Int) := (by omega)
          have q112 : 0 < (l0.length : Int) := of_decide_eq_true (by first | (with_reducible assumption) | assumption)
          obtain ⟨ad112, A112_1, c112_1, e112, hx112_0, hx112_1, hl112_1, hi112_1⟩ := at_T156 HR0.out 0 p112 q112
          have hw112_1 := hx112_1
          (try rw [show ((0 : Int)).toNat = 0 from rfl] at hw112_1)
          (try rw [show 0 * 2 = 0 from rfl] at hw112_1)
          (try rw [Addr.add_zero'] at hw112_1)
          have hw112_0 := hx112_0
          (try rw [show ((0 : Int)).toNat = 0 from rfl] at hw112_0)
          (try rw [show 0 * 2 = 0 from rfl] at hw112_0)
          (try rw [Addr.add_zero'] at hw112_0)
          obtain rfl : ad107 = ad112 := (by injection e112)
          have qi112 : (0 < l0.length) = True := eq_true (by omega)
          (try rw [show ((0 : Int)).toNat = 0 from rfl] at hx112_0)
          (try rw [show 0 * 2 = 0 from rfl] at hx112_0)
          (try rw [Addr.add_zero'] at hx112_0)
          (try rw [show ((0 : Int)).toNat = 0 from rfl] at hx112_1)
          (try rw [show 0 * 2 = 0 from rfl] at hx112_1)
          (try rw [Addr.add_zero'] at hx112_1)
          replace hx112_0 := (HB.out.cell (World.block_lt_of_cell? w _ hx112_0)).trans hx112_0
          replace hx112_1 := (HB.out.cell (World.block_lt_of_cell? w _ hx112_1)).trans hx112_1
          have HR112_1 := Aside0.mk hi112_1
          have HC112_1 := Aside0.mk hl112_1
          clear hi112_1 hl112_1
          replace p112 := eq_true p112
          replace q112 := eq_true q112
          refine start_ (n := 20) (S := fun w' => w'.cell? ⟨gb108, 0, none⟩ = some (.int .i64 ((rd_T156 l0 x24_1).f0)) ∧ w'.cell? ⟨gb108, 1, none⟩ = some (.slice A107_1 ((rd_T156 l0 x24_1).f1).length c107_1) ∧ w'.cell? ad107 = some (.int .i64 ((rd_T156 l0 0).f0)) ∧ w'.cell? ⟨ad107.block, ad107.off + 1, none⟩ = some (.slice A112_1 ((rd_T156 l0 0).f1).length c112_1)) (ds := []) #[false, false, false, false, false, false, false, false, false, false, false, false, false, false, false, false, false, false, false, false] (by kernel_rfl) rfl rfl ⟨(blk_cell BK108.out 0).trans rfl, (blk_cell BK108.out 1).trans rfl, ((HB.out.cell (World.block_lt_of_cell? w _ hw112_0)).trans hw112_0), ((HB.out.cell (World.block_lt_of_cell? w _ hw112_1)).trans hw112_1)⟩ (fun hHeld => ?_); refine with_tabW market_CheckEnsemble.tab8 market_CheckEnsemble.bits8 (fun HT_ HW_ => ?_)
          generalize w34.drew = w35 at BK108 HB HR112_1 hx112_0 hx112_1 hHeld ⊢
          refine pv_ 0 31 #[true, false, false, false, false, false, false, false, false, false, false, false, false, false, false, false, false, false, false, false] (any_of HT_.out (by kernel_rfl)) ?_
          refine pv_ 3 34 #[true, false, false, true, false, false, false, false, false, false, false, false, false, false, false, false, false, false, false, false] (any_of HT_.out (by kernel_rfl)) ?_
          refine pv_ 4 35 #[true, false, false, true, true, false, false, false, false, false, false, false, false, false, false, false, false, false, false, false] (any_of HT_.out (by kernel_rfl)) ?_
          refine pv_ 6 37 #[true, false, false, true, true, false, true, false, false, false, false, false, false, false, false, false, false, false, false, false] (any_of HT_.out (by kernel_rfl)) ?_
          refine pv_ 7 38 #[true, false, false, true, true, false, true, true, false, false, false, false, false, false, false, false, false, false, false, false] (any_of HT_.out (by kernel_rfl)) ?_
          refine pv_ 9 40 #[true, false, false, true, true, false, true, true, false, true, false, false, false, false, false, false, false, false, false, false] (any_of HT_.out (by kernel_rfl)) ?_
          refine pv_ 10 41 #[true, false, false, true, true, false, true, true, false, true, true, false, false, false, false, false, false, false, false, false] (any_of HT_.out (by kernel_rfl)) ?_
          refine pv_ 11 42 #[true, false, false, true, true, false, true, true, false, true, true, true, false, false, false, false, false, false, false, false] (any_of HT_.out (by kernel_rfl)) ?_
          refine pv_ 12 43 #[true, false, false, true, true, false, true, true, false, true, true, true, true, false, false, false, false, false, false, false] (any_of HT_.out (by kernel_rfl)) ?_
          refine take_ (i := 1) (N := some 32) (v := ?_) (a' := ?_) #[true, true, false, true, true, false, true, true, false, true, true, true, true, false, false, false, false, false, false, false] rfl rfl (take_ofW HT_.out HW_.out (by kernel_rfl)) (fun _ _ _ h => h) (Or.inl ⟨by rfl, ?_⟩) hHeld ?_ ?_
          rotate_left
          ·rintro w' ⟨s0, s1, s2, s3⟩
           go_simp
           with_reducible rfl
          rotate_left
          ·simp only [Act.put, List.setIfInBounds_toArray, List.set_cons_zero, List.set_cons_succ, i64_w, i32_w]
           rfl
          refine take_ (i := 13) (N := some 44) (v := ?_) (a' := ?_) #[true, true, false, true, true, false, true, true, false, true, true, true, true, true, false, false, false, false, false, false] rfl rfl (take_ofW HT_.out HW_.out (by kernel_rfl)) (fun _ _ _ h => h) (Or.inl ⟨by rfl, ?_⟩) hHeld ?_ ?_
          rotate_left
          ·rintro w' ⟨s0, s1, s2, s3⟩
           go_simp
           with_reducible rfl
          rotate_left
          ·simp only [Act.put, List.setIfInBounds_toArray, List.set_cons_zero, List.set_cons_succ, i64_w, i32_w]
           rfl
          refine pv_ 14 45 #[true, true, false, true, true, false, true, true, false, true, true, true, true, true, true, false, false, false, false, false] (any_of HT_.out (by kernel_rfl)) ?_
          refine pv_ 15 46 #[true, true, false, true, true, false, true, true, false, true, true, true, true, true, true, true, false, false, false, false] (any_of HT_.out (by kernel_rfl)) ?_
          refine one_ (i := 2) (N := some 33) #[true, true, true, true, true, false, true, true, false, true, true, true, true, true, true, true, false, false, false, false] rfl rfl (one_of HT_.out (by kernel_rfl)) (by decide) (fun K hK => ?_)
          refine goes_ Tryz.func91 (by kernel_rfl) rfl #[.int .i64 ((rd_T156 l0 x24_1).f0), .int .i64 1, .int .i64 1000] (by rfl) rfl rfl (by (try simp only [List.map_toArray, List.map_cons, List.map_nil]); first | done | rfl | (simp only [List.length_drop, List.length_take]; rfl)) ?_
          with_reducible refine (market_within.calls ((rd_T156 l0 x24_1).f0) 1 1000 t109 _ A12.out).mono ?_
          rintro e w' ⟨rfl, ⟨nd, rfl⟩⟩
          refine ⟨_, rfl, ?_⟩
          refine hK.out _ _ ⟨(blk_cell BK108.out 0).trans rfl, (blk_cell BK108.out 1).trans rfl, ((HB.out.cell (World.block_lt_of_cell? w _ hw112_0)).trans hw112_0), ((HB.out.cell (World.block_lt_of_cell? w _ hw112_1)).trans hw112_1)⟩ (fun hHeld => ?_)
          clear hK K
          refine norm_ (a' := ?_) ?_ ?_
          rotate_left
          ·show Act.put _ (some 33) _ = _
           simp only [Act.put, List.setIfInBounds_toArray, List.set_cons_zero, List.set_cons_succ, i64_w, i32_w]
           rfl
          refine one_ (i := 5) (N := some 36) #[true, true, true, true, true, true, true, true, false, true, true, true, true, true, true, true, false, false, false, false] rfl rfl (one_of HT_.out (by kernel_rfl)) (by decide) (fun K hK => ?_)
          refine goes_ Tryz.func90 (by kernel_rfl) rfl #[.bool ((((rd_T156 l0 x24_1).f1).length : Int) == 0), .int .i64 12] (by rfl) rfl rfl (by (try simp only [List.map_toArray, List.map_cons, List.map_nil]); first | done | rfl | (simp only [List.length_drop, List.length_take]; rfl)) ?_
          with_reducible refine (market_when.calls ((((rd_T156 l0 x24_1).f1).length : Int) == 0) 12 t110 _ A13.out).mono ?_
          rintro e w' ⟨rfl, ⟨nd, rfl⟩⟩
          refine ⟨_, rfl, ?_⟩
          refine hK.out _ _ ⟨(blk_cell BK108.out 0).trans rfl, (blk_cell BK108.out 1).trans rfl, ((HB.out.cell (World.block_lt_of_cell? w _ hw112_0)).trans hw112_0), ((HB.out.cell (World.block_lt_of_cell? w _ hw112_1)).trans hw112_1)⟩ (fun hHeld => ?_)
          clear hK K
          refine norm_ (a' := ?_) ?_ ?_
          rotate_left
          ·show Act.put _ (some 36) _ = _
           simp only [Act.put, List.setIfInBounds_toArray, List.set_cons_zero, List.set_cons_succ, i64_w, i32_w]
           rfl
          refine one_ (i := 8) (N := some 39) #[true, true, true, true, true, true, true, true, true, true, true, true, true, true, true, true, false, false, false, false] rfl rfl (one_of HT_.out (by kernel_rfl)) (by decide) (fun K hK => ?_)
          refine goes_ Tryz.func90 (by kernel_rfl) rfl #[.bool (decide ((((rd_T156 l0 x24_1).f1).length : Int) > 96)), .int .i64 5] (by rfl) rfl rfl (by (try simp only [List.map_toArray, List.map_cons, List.map_nil]); first | done | rfl | (simp only [List.length_drop, List.length_take]; rfl)) ?_
          with_reducible refine (market_when.calls (decide ((((rd_T156 l0 x24_1).f1).length : Int) > 96)) 5 t111 _ A14.out).mono ?_
          rintro e w' ⟨rfl, ⟨nd, rfl⟩⟩
          refine ⟨_, rfl, ?_⟩
          refine hK.out _ _ ⟨(blk_cell BK108.out 0).trans rfl, (blk_cell BK108.out 1).trans rfl, ((HB.out.cell (World.block_lt_of_cell? w _ hw112_0)).trans hw112_0), ((HB.out.cell (World.block_lt_of_cell? w _ hw112_1)).trans hw112_1)⟩ (fun hHeld => ?_)
          clear hK K
          refine norm_ (a' := ?_) ?_ ?_
          rotate_left
          ·show Act.put _ (some 39) _ = _
           simp only [Act.put, List.setIfInBounds_toArray, List.set_cons_zero, List.set_cons_succ, i64_w, i32_w]
           rfl
          refine one_ (i := 16) (N := some 47) #[true, true, true, true, true, true, true, true, true, true, true, true, true, true, true, true, true, false, false, false] rfl rfl (one_of HT_.out (by kernel_rfl)) (by decide) (fun K hK => ?_)
          refine goes_ Tryz.func90 (by kernel_rfl) rfl #[.bool ((((rd_T156 l0 x24_1).f1).length : Int) != (((rd_T156 l0 0).f1).length : Int)), .int .i64 2] (by rfl) rfl rfl (by (try simp only [List.map_toArray, List.map_cons, List.map_nil]); first | done | rfl | (simp only [List.length_drop, List.length_take]; rfl)) ?_
          with_reducible refine (market_when.calls ((((rd_T156 l0 x24_1).f1).length : Int) != (((rd_T156 l0 0).f1).length : Int)) 2 t113 _ A16.out).mono ?_
          rintro e w' ⟨rfl, ⟨nd, rfl⟩⟩
          refine ⟨_, rfl, ?_⟩
          refine hK.out _ _ ⟨(blk_cell BK108.out 0).trans rfl, (blk_cell BK108.out 1).trans rfl, ((HB.out.cell (World.block_lt_of_cell? w _ hw112_0)).trans hw112_0), ((HB.out.cell (World.block_lt_of_cell? w _ hw112_1)).trans hw112_1)⟩ (fun hHeld => ?_)
          clear hK K
          refine norm_ (a' := ?_) ?_ ?_
          rotate_left
          ·show Act.put _ (some 47) _ = _
           simp only [Act.put, List.setIfInBounds_toArray, List.set_cons_zero, List.set_cons_succ, i64_w, i32_w]
           rfl
          refine one_ (i := 17) (N := some 48) #[true, true, true, true, true, true, true, true, true, true, true, true, true, true, true, true, true, true, false, false] rfl rfl (one_of HT_.out (by kernel_rfl)) (by decide) (fun K hK => ?_)
          refine Kd.R_lit_step (Kd.int .i64) _ 28 ?hg (N := 48) ?hd (xs := ([t109, t110, t111, t113] : List Int)) (inner := [.int .i64 t109, .int .i64 t110, .int .i64 t111, .int .i64 t113]) (ok := fun _ => True) (okp := fun _ => True) ?hr ?hp (fun _ hk => hk) trivial (Below.refl _ _) (Nat.le_refl _) (by simp) ?_; (case hd => rfl); (case hg => rfl); (case hr => first | (go_simp; done) | (go_simp; rfl)); (case hp => exact (Reps.one (show Kd.M (Kd.int .i64) _ _ _ t109 [.int .i64 t109] from rfl) (Reps.one (show Kd.M (Kd.int .i64) _ _ _ t110 [.int .i64 t110] from rfl) (Reps.one (show Kd.M (Kd.int .i64) _ _ _ t111 [.int .i64 t111] from rfl) (Reps.one (show Kd.M (Kd.int .i64) _ _ _ t113 [.int .i64 t113] from rfl) (Reps.none _ _))))))
          intro v115 w36 ho37 hb hg_ hnew_
          clear hg_ hnew_
          (first | rw [← Ny114.out] at ho37 | (simp only [Int.reduceToNat] at ho37; rw [← Ny114.out] at ho37))
          have n0_ := Aside0.mk (Kd.R_lower ho37 (below_size (wg_ HB.out GE108.out)))
          have n1_ := Aside0.mk (blk_below (g := gb108) (o := .cells #[.int .i64 ((rd_T156 l0 x24_1).f0), .slice A107_1 ((rd_T156 l0 x24_1).f1).length c107_1] 156 (0, 0)) (bs_ BK108.out) hb)
          have n2_ := Aside0.mk (below_step (wg_ HB.out GE108.out) hb)
          clear BK108
          clear HB
          have HO116 := n0_
          have BK108 := n1_
          have HB := n2_
          clear n0_ n1_ n2_
          clear hb ho37
          obtain ⟨Ao38, co38, eo38⟩ := Kd.R_slice HO116.out
          (first | subst eo38 | (injection eo38 with f1_ f2_ f3_; have f4_ := f1_.symm; have f5_ := f3_.symm; clear f1_ f2_ f3_; subst f4_; subst f5_))
          refine hK.out _ _ ⟨(blk_cell BK108.out 0).trans rfl, (blk_cell BK108.out 1).trans rfl, ((HB.out.cell (World.block_lt_of_cell? w _ hw112_0)).trans hw112_0), ((HB.out.cell (World.block_lt_of_cell? w _ hw112_1)).trans hw112_1)⟩ (fun hHeld => ?_)
          clear hK K
          refine norm_ (a' := ?_) ?_ ?_
          rotate_left
          ·show Act.put _ (some 48) _ = _
           simp only [Act.put, List.setIfInBounds_toArray, List.set_cons_zero, List.set_cons_succ, i64_w, i32_w]
           rfl
          refine one_ (i := 18) (N := some 49) #[true, true, true, true, true, true, true, true, true, true, true, true, true, true, true, true, true, true, true, false] rfl rfl (one_of HT_.out (by kernel_rfl)) (by decide) (fun K hK => ?_)
          refine goes_ Tryz.func85 (by kernel_rfl) rfl #[.slice Ao38 y114.length co38] (by rfl) rfl rfl (by (try simp only [List.map_toArray, List.map_cons, List.map_nil]); first | done | rfl | (simp only [List.length_drop, List.length_take]; rfl)) ?_
          with_reducible refine (market_first.calls k1 _ _ y114 t117 _ ?side1 ?side2 A17.out).mono ?_
          (case side1 => repeat (first | exact (Kd.R_reads' HO116.out).2.2 | (with_reducible refine Kd.C_alloc ?_ _) | (with_reducible refine Kd.C_drewN ?_ _) | (with_reducible refine Kd.C_drew ?_)))
          (case side2 => exact (Kd.R_reads' HO116.out).2.1)
          rintro e w' ⟨rfl, ⟨nd, rfl⟩⟩
          refine ⟨_, rfl, ?_⟩
          refine hK.out _ _ ⟨(blk_cell BK108.out 0).trans rfl, (blk_cell BK108.out 1).trans rfl, ((HB.out.cell (World.block_lt_of_cell? w _ hw112_0)).trans hw112_0), ((HB.out.cell (World.block_lt_of_cell? w _ hw112_1)).trans hw112_1)⟩ (fun hHeld => ?_)
          clear hK K
          refine norm_ (a' := ?_) ?_ ?_
          rotate_left
          ·show Act.put _ (some 49) _ = _
           simp only [Act.put, List.setIfInBounds_toArray, List.set_cons_zero, List.set_cons_succ, i64_w, i32_w]
           rfl
          refine pv_ 19 7 #[true, true, true, true, true, true, true, true, true, true, true, true, true, true, true, true, true, true, true, true] (any_of HT_.out (by kernel_rfl)) ?_
          refine done_ (done_of HT_.out (by kernel_rfl)) ?_
          have hcz39_0 : w36.cell? ⟨gb108, 0, none⟩ = some (.int .i64 ((rd_T156 l0 x24_1).f0)) := (blk_cell BK108.out 0).trans rfl
          have hcz39_1 : w36.cell? ⟨gb108, 1, none⟩ = some (.slice A107_1 ((rd_T156 l0 x24_1).f1).length c107_1) := (blk_cell BK108.out 1).trans rfl
          have hfz39_0 := blk_frozen BK108.out 0
          have hfz39_1 := blk_frozen BK108.out 1
          try go_wp2_with (first | ((with_reducible refine gate_callee (f := 92) rfl ?_); refine gl_ (some 55) Tryz.func92 #[.slice A107_1 ((rd_T156 l0 x24_1).f1).length c107_1, .func (.func 86) #[] #[]] ?_; (with_reducible refine (api_Errno_92__market_checkEnergy.calls k1 _ _ ((rd_T156 l0 x24_1).f1) () t118 _ ?side1 ?side2 A19.out).mono ?_); (case side1 => repeat (first | exact (Kd.C_below HR107_1.out (wg_ HB.out GE108.out)) | (with_reducible refine Kd.C_alloc ?_ _) | (with_reducible refine Kd.C_drewN ?_ _) | (with_reducible refine Kd.C_drew ?_))); (case side2 => exact HC107_1.out); rintro e w40 ⟨v119, rfl, ho0, hb⟩; refine ⟨_, rfl, ?_⟩; have n0_ := Aside0.mk (Kd.R_elder' (rs_ HO116.out) (Kd.R_base ho0) hb); have n1_ := Aside0.mk (Kd.R_lower (Kd.R_new' ho0 (Kd.R_lt (rs_ HO116.out))) (below_size (wg_ HB.out GE108.out))); have n2_ := Aside0.mk (blk_below (g := gb108) (o := .cells #[.int .i64 ((rd_T156 l0 x24_1).f0), .slice A107_1 ((rd_T156 l0 x24_1).f1).length c107_1] 156 (0, 0)) (bs_ BK108.out) hb); have n3_ := Aside0.mk (below_step (wg_ HB.out GE108.out) hb); clear HO116; clear BK108; clear HB; have HO116 := n0_; have HO120 := n1_; have BK108 := n2_; have HB := n3_; clear n0_ n1_ n2_ n3_; (try clear hb); (try clear hb2); (try clear hk); (try clear hi); (try clear ho0); obtain ⟨Ao41, co41, eo41⟩ := Kd.R_slice HO120.out; subst eo41) | ((with_reducible refine gate_callee (f := 85) rfl ?_); refine gl_ (some 56) Tryz.func85 #[.slice Ao41 t118.length co41] ?_; (with_reducible refine (market_first.calls k1 _ _ t118 t121 _ ?side1 ?side2 A20.out).mono ?_); (case side1 => repeat (first | exact (Kd.R_reads' HO120.out).2.2 | (with_reducible refine Kd.C_alloc ?_ _) | (with_reducible refine Kd.C_drewN ?_ _) | (with_reducible refine Kd.C_drew ?_))); (case side2 => exact (Kd.R_reads' HO120.out).2.1); rintro e w' ⟨rfl, ⟨nd, rfl⟩⟩; refine ⟨_, rfl, ?_⟩))
          go_ret
          exact ⟨by first | rfl | (simp [errW_none, errW_some] <;> rfl) | (simp [*, errW_none, errW_some] <;> rfl), by repeat (first | (with_reducible first | exact HB.out | apply below_alloc | apply pw_below_drewN | apply below_drew1 | refine below_set ?_ GE108.out) | exact HB.out)⟩
        ·rw [if_neg c18] at H
         have c18b0 : (t117 == 0) = false := beq_eq_false_iff_ne.mpr c18
         have c18b1 : (t117 != 0) = true := bne_iff_ne.mpr c18
         obtain rfl := Option.some.inj H
         have p107 : 0 ≤ (x24_1 : Int) := of_decide_eq_true (by first | (with_reducible assumption) | assumption)
         have q107 : x24_1 < (l0.length : Int) := of_decide_eq_true (by first | (with_reducible assumption) | assumption)
         obtain ⟨ad107, A107_1, c107_1, e107, hx107_0, hx107_1, hl107_1, hi107_1⟩ := at_T156 HR0.out x24_1 p107 q107
         cases e107
         replace hx107_0 := (HB.out.cell (World.block_lt_of_cell? w _ hx107_0)).trans hx107_0
         replace hx107_1 := (HB.out.cell (World.block_lt_of_cell? w _ hx107_1)).trans hx107_1
         have HR107_1 := Aside0.mk hi107_1
         have HC107_1 := Aside0.mk hl107_1
         clear hi107_1 hl107_1
         replace p107 := eq_true p107
         replace q107 := eq_true q107
         try go_wp2_with (first | ((with_reducible refine gate_dst (N := 5) rfl ?_); refine box_event ?hg (N := 5) ?hd (cs := #[.int .i64 0, .slice none 0 0]) (t := 156) ?hr ?_; (case hd => rfl); (case hg => rfl); (case hr => first | (go_simp; done) | (go_simp; rfl)); intro gb108 hg w42 hbox hb; have n0_ := Aside0.mk (below_step (ws_ HB.out) hb); have n1_ := Aside0.mk (hbox); have n2_ := Aside0.mk ((by rw [hg]; exact (below_size (ws_ HB.out)) : w.heap.size ≤ gb108)); have n3_ := Aside0.mk ((by rw [hg]; exact (below_size (ws_ HB.out)) : w.heap.size ≤ gb108)); clear HB; have HB := n0_; have BK108 := n1_; have GW108 := n2_; have GE108 := n3_; clear n0_ n1_ n2_ n3_; clear hb hbox hg; have hcz43_0 : w42.cell? ⟨gb108, 0, none⟩ = some (.int .i64 0) := (blk_cell BK108.out 0).trans rfl; have hcz43_1 : w42.cell? ⟨gb108, 1, none⟩ = some (.slice none 0 0) := (blk_cell BK108.out 1).trans rfl; have hfz43_0 := blk_frozen BK108.out 0; have hfz43_1 := blk_frozen BK108.out 1))
         have n0_ : Aside0 (((w42.setCell ⟨gb108, 0, none⟩ (.int .i64 ((rd_T156 l0 x24_1).f0))).setCell ⟨gb108, 1, none⟩ (.slice A107_1 ((rd_T156 l0 x24_1).f1).length c107_1)).heap[gb108]? = some (.cells #[.int .i64 ((rd_T156 l0 x24_1).f0), .slice A107_1 ((rd_T156 l0 x24_1).f1).length c107_1] 156 (0, 0))) := ⟨by (with_reducible repeat (first | refine blk_drewN ?_ _ | refine blk_drew ?_ | refine blk_alloc ?_ _)); refine blk_put (cs := #[.int .i64 ((rd_T156 l0 x24_1).f0), .slice none 0 0]) ?_ 1 _ rfl; (with_reducible repeat (first | refine blk_drewN ?_ _ | refine blk_drew ?_ | refine blk_alloc ?_ _)); refine blk_put (cs := #[.int .i64 0, .slice none 0 0]) ?_ 0 _ rfl; (with_reducible repeat (first | refine blk_drewN ?_ _ | refine blk_drew ?_ | refine blk_alloc ?_ _)); exact BK108.out⟩
         have n1_ : Aside0 (Below w.heap.size w ((w42.setCell ⟨gb108, 0, none⟩ (.int .i64 ((rd_T156 l0 x24_1).f0))).setCell ⟨gb108, 1, none⟩ (.slice A107_1 ((rd_T156 l0 x24_1).f1).length c107_1))) := ⟨by repeat (first | (with_reducible first | exact HB.out | apply below_alloc | apply pw_below_drewN | apply below_drew1 | refine below_set ?_ GE108.out) | exact HB.out)⟩
         (try clear BK108)
         (try clear HB)
         generalize ((w42.setCell ⟨gb108, 0, none⟩ (.int .i64 ((rd_T156 l0 x24_1).f0))).setCell ⟨gb108, 1, none⟩ (.slice A107_1 ((rd_T156 l0 x24_1).f1).length c107_1)) = w44 at n0_ n1_ ⊢
         have BK108 := n0_
         have HB := n1_
         clear n0_ n1_
         have n0_ := Aside0.mk (blk_drew BK108.out)
         have n1_ := Aside0.mk (below_drew1 HB.out)
         clear BK108
         clear HB
         have BK108 := n0_
         have HB := n1_
         clear n0_ n1_
         have p112 : 0 ≤ (0 : Int) := (by omega)
         have q112 : 0 < (l0.length : Int) := of_decide_eq_true (by first | (with_reducible assumption) | assumption)
         obtain ⟨ad112, A112_1, c112_1, e112, hx112_0, hx112_1, hl112_1, hi112_1⟩ := at_T156 HR0.out 0 p112 q112
         have hw112_1 := hx112_1
         (try rw [show ((0 : Int)).toNat = 0 from rfl] at hw112_1)
         (try rw [show 0 * 2 = 0 from rfl] at hw112_1)
         (try rw [Addr.add_zero'] at hw112_1)
         have hw112_0 := hx112_0
         (try rw [show ((0 : Int)).toNat = 0 from rfl] at hw112_0)
         (try rw [show 0 * 2 = 0 from rfl] at hw112_0)
         (try rw [Addr.add_zero'] at hw112_0)
         obtain rfl : ad107 = ad112 := (by injection e112)
         have qi112 : (0 < l0.length) = True := eq_true (by omega)
         (try rw [show ((0 : Int)).toNat = 0 from rfl] at hx112_0)
         (try rw [show 0 * 2 = 0 from rfl] at hx112_0)
         (try rw [Addr.add_zero'] at hx112_0)
         (try rw [show ((0 : Int)).toNat = 0 from rfl] at hx112_1)
         (try rw [show 0 * 2 = 0 from rfl] at hx112_1)
         (try rw [Addr.add_zero'] at hx112_1)
         replace hx112_0 := (HB.out.cell (World.block_lt_of_cell? w _ hx112_0)).trans hx112_0
         replace hx112_1 := (HB.out.cell (World.block_lt_of_cell? w _ hx112_1)).trans hx112_1
         have HR112_1 := Aside0.mk hi112_1
         have HC112_1 := Aside0.mk hl112_1
         clear hi112_1 hl112_1
         replace p112 := eq_true p112
         replace q112 := eq_true q112
         refine start_ (n := 20) (S := fun w' => w'.cell? ⟨gb108, 0, none⟩ = some (.int .i64 ((rd_T156 l0 x24_1).f0)) ∧ w'.cell? ⟨gb108, 1, none⟩ = some (.slice A107_1 ((rd_T156 l0 x24_1).f1).length c107_1) ∧ w'.cell? ad107 = some (.int .i64 ((rd_T156 l0 0).f0)) ∧ w'.cell? ⟨ad107.block, ad107.off + 1, none⟩ = some (.slice A112_1 ((rd_T156 l0 0).f1).length c112_1)) (ds := []) #[false, false, false, false, false, false, false, false, false, false, false, false, false, false, false, false, false, false, false, false] (by kernel_rfl) rfl rfl ⟨(blk_cell BK108.out 0).trans rfl, (blk_cell BK108.out 1).trans rfl, ((HB.out.cell (World.block_lt_of_cell? w _ hw112_0)).trans hw112_0), ((HB.out.cell (World.block_lt_of_cell? w _ hw112_1)).trans hw112_1)⟩ (fun hHeld => ?_); refine with_tabW market_CheckEnsemble.tab8 market_CheckEnsemble.bits8 (fun HT_ HW_ => ?_)
         generalize w44.drew = w45 at BK108 HB HR112_1 hx112_0 hx112_1 hHeld ⊢
         refine pv_ 0 31 #[true, false, false, false, false, false, false, false, false, false, false, false, false, false, false, false, false, false, false, false] (any_of HT_.out (by kernel_rfl)) ?_
         refine pv_ 3 34 #[true, false, false, true, false, false, false, false, false, false, false, false, false, false, false, false, false, false, false, false] (any_of HT_.out (by kernel_rfl)) ?_
         refine pv_ 4 35 #[true, false, false, true, true, false, false, false, false, false, false, false, false, false, false, false, false, false, false, false] (any_of HT_.out (by kernel_rfl)) ?_
         refine pv_ 6 37 #[true, false, false, true, true, false, true, false, false, false, false, false, false, false, false, false, false, false, false, false] (any_of HT_.out (by kernel_rfl)) ?_
         refine pv_ 7 38 #[true, false, false, true, true, false, true, true, false, false, false, false, false, false, false, false, false, false, false, false] (any_of HT_.out (by kernel_rfl)) ?_
         refine pv_ 9 40 #[true, false, false, true, true, false, true, true, false, true, false, false, false, false, false, false, false, false, false, false] (any_of HT_.out (by kernel_rfl)) ?_
         refine pv_ 10 41 #[true, false, false, true, true, false, true, true, false, true, true, false, false, false, false, false, false, false, false, false] (any_of HT_.out (by kernel_rfl)) ?_
         refine pv_ 11 42 #[true, false, false, true, true, false, true, true, false, true, true, true, false, false, false, false, false, false, false, false] (any_of HT_.out (by kernel_rfl)) ?_
         refine pv_ 12 43 #[true, false, false, true, true, false, true, true, false, true, true, true, true, false, false, false, false, false, false, false] (any_of HT_.out (by kernel_rfl)) ?_
         refine take_ (i := 1) (N := some 32) (v := ?_) (a' := ?_) #[true, true, false, true, true, false, true, true, false, true, true, true, true, false, false, false, false, false, false, false] rfl rfl (take_ofW HT_.out HW_.out (by kernel_rfl)) (fun _ _ _ h => h) (Or.inl ⟨by rfl, ?_⟩) hHeld ?_ ?_
         rotate_left
         ·rintro w' ⟨s0, s1, s2, s3⟩
          go_simp
          with_reducible rfl
         rotate_left
         ·simp only [Act.put, List.setIfInBounds_toArray, List.set_cons_zero, List.set_cons_succ, i64_w, i32_w]
          rfl
         refine take_ (i := 13) (N := some 44) (v := ?_) (a' := ?_) #[true, true, false, true, true, false, true, true, false, true, true, true, true, true, false, false, false, false, false, false] rfl rfl (take_ofW HT_.out HW_.out (by kernel_rfl)) (fun _ _ _ h => h) (Or.inl ⟨by rfl, ?_⟩) hHeld ?_ ?_
         rotate_left
         ·rintro w' ⟨s0, s1, s2, s3⟩
          go_simp
          with_reducible rfl
         rotate_left
         ·simp only [Act.put, List.setIfInBounds_toArray, List.set_cons_zero, List.set_cons_succ, i64_w, i32_w]
          rfl
         refine pv_ 14 45 #[true, true, false, true, true, false, true, true, false, true, true, true, true, true, true, false, false, false, false, false] (any_of HT_.out (by kernel_rfl)) ?_
         refine pv_ 15 46 #[true, true, false, true, true, false, true, true, false, true, true, true, true, true, true, true, false, false, false, false] (any_of HT_.out (by kernel_rfl)) ?_
         refine one_ (i := 2) (N := some 33) #[true, true, true, true, true, false, true, true, false, true, true, true, true, true, true, true, false, false, false, false] rfl rfl (one_of HT_.out (by kernel_rfl)) (by decide) (fun K hK => ?_)
         refine goes_ Tryz.func91 (by kernel_rfl) rfl #[.int .i64 ((rd_T156 l0 x24_1).f0), .int .i64 1, .int .i64 1000] (by rfl) rfl rfl (by (try simp only [List.map_toArray, List.map_cons, List.map_nil]); first | done | rfl | (simp only [List.length_drop, List.length_take]; rfl)) ?_
         with_reducible refine (market_within.calls ((rd_T156 l0 x24_1).f0) 1 1000 t109 _ A12.out).mono ?_
         rintro e w' ⟨rfl, ⟨nd, rfl⟩⟩
         refine ⟨_, rfl, ?_⟩
         refine hK.out _ _ ⟨(blk_cell BK108.out 0).trans rfl, (blk_cell BK108.out 1).trans rfl, ((HB.out.cell (World.block_lt_of_cell? w _ hw112_0)).trans hw112_0), ((HB.out.cell (World.block_lt_of_cell? w _ hw112_1)).trans hw112_1)⟩ (fun hHeld => ?_)
         clear hK K
         refine norm_ (a' := ?_) ?_ ?_
         rotate_left
         ·show Act.put _ (some 33) _ = _
          simp only [Act.put, List.setIfInBounds_toArray, List.set_cons_zero, List.set_cons_succ, i64_w, i32_w]
          rfl
         refine one_ (i := 5) (N := some 36) #[true, true, true, true, true, true, true, true, false, true, true, true, true, true, true, true, false, false, false, false] rfl rfl (one_of HT_.out (by kernel_rfl)) (by decide) (fun K hK => ?_)
         refine goes_ Tryz.func90 (by kernel_rfl) rfl #[.bool ((((rd_T156 l0 x24_1).f1).length : Int) == 0), .int .i64 12] (by rfl) rfl rfl (by (try simp only [List.map_toArray, List.map_cons, List.map_nil]); first | done | rfl | (simp only [List.length_drop, List.length_take]; rfl)) ?_
         with_reducible refine (market_when.calls ((((rd_T156 l0 x24_1).f1).length : Int) == 0) 12 t110 _ A13.out).mono ?_
         rintro e w' ⟨rfl, ⟨nd, rfl⟩⟩
         refine ⟨_, rfl, ?_⟩
         refine hK.out _ _ ⟨(blk_cell BK108.out 0).trans rfl, (blk_cell BK108.out 1).trans rfl, ((HB.out.cell (World.block_lt_of_cell? w _ hw112_0)).trans hw112_0), ((HB.out.cell (World.block_lt_of_cell? w _ hw112_1)).trans hw112_1)⟩ (fun hHeld => ?_)
         clear hK K
         refine norm_ (a' := ?_) ?_ ?_
         rotate_left
         ·show Act.put _ (some 36) _ = _
          simp only [Act.put, List.setIfInBounds_toArray, List.set_cons_zero, List.set_cons_succ, i64_w, i32_w]
          rfl
         refine one_ (i := 8) (N := some 39) #[true, true, true, true, true, true, true, true, true, true, true, true, true, true, true, true, false, false, false, false] rfl rfl (one_of HT_.out (by kernel_rfl)) (by decide) (fun K hK => ?_)
         refine goes_ Tryz.func90 (by kernel_rfl) rfl #[.bool (decide ((((rd_T156 l0 x24_1).f1).length : Int) > 96)), .int .i64 5] (by rfl) rfl rfl (by (try simp only [List.map_toArray, List.map_cons, List.map_nil]); first | done | rfl | (simp only [List.length_drop, List.length_take]; rfl)) ?_
         with_reducible refine (market_when.calls (decide ((((rd_T156 l0 x24_1).f1).length : Int) > 96)) 5 t111 _ A14.out).mono ?_
         rintro e w' ⟨rfl, ⟨nd, rfl⟩⟩
         refine ⟨_, rfl, ?_⟩
         refine hK.out _ _ ⟨(blk_cell BK108.out 0).trans rfl, (blk_cell BK108.out 1).trans rfl, ((HB.out.cell (World.block_lt_of_cell? w _ hw112_0)).trans hw112_0), ((HB.out.cell (World.block_lt_of_cell? w _ hw112_1)).trans hw112_1)⟩ (fun hHeld => ?_)
         clear hK K
         refine norm_ (a' := ?_) ?_ ?_
         rotate_left
         ·show Act.put _ (some 39) _ = _
          simp only [Act.put, List.setIfInBounds_toArray, List.set_cons_zero, List.set_cons_succ, i64_w, i32_w]
          rfl
         refine one_ (i := 16) (N := some 47) #[true, true, true, true, true, true, true, true, true, true, true, true, true, true, true, true, true, false, false, false] rfl rfl (one_of HT_.out (by kernel_rfl)) (by decide) (fun K hK => ?_)
         refine goes_ Tryz.func90 (by kernel_rfl) rfl #[.bool ((((rd_T156 l0 x24_1).f1).length : Int) != (((rd_T156 l0 0).f1).length : Int)), .int .i64 2] (by rfl) rfl rfl (by (try simp only [List.map_toArray, List.map_cons, List.map_nil]); first | done | rfl | (simp only [List.length_drop, List.length_take]; rfl)) ?_
         with_reducible refine (market_when.calls ((((rd_T156 l0 x24_1).f1).length : Int) != (((rd_T156 l0 0).f1).length : Int)) 2 t113 _ A16.out).mono ?_
         rintro e w' ⟨rfl, ⟨nd, rfl⟩⟩
         refine ⟨_, rfl, ?_⟩
         refine hK.out _ _ ⟨(blk_cell BK108.out 0).trans rfl, (blk_cell BK108.out 1).trans rfl, ((HB.out.cell (World.block_lt_of_cell? w _ hw112_0)).trans hw112_0), ((HB.out.cell (World.block_lt_of_cell? w _ hw112_1)).trans hw112_1)⟩ (fun hHeld => ?_)
         clear hK K
         refine norm_ (a' := ?_) ?_ ?_
         rotate_left
         ·show Act.put _ (some 47) _ = _
          simp only [Act.put, List.setIfInBounds_toArray, List.set_cons_zero, List.set_cons_succ, i64_w, i32_w]
          rfl
         refine one_ (i := 17) (N := some 48) #[true, true, true, true, true, true, true, true, true, true, true, true, true, true, true, true, true, true, false, false] rfl rfl (one_of HT_.out (by kernel_rfl)) (by decide) (fun K hK => ?_)
         refine Kd.R_lit_step (Kd.int .i64) _ 28 ?hg (N := 48) ?hd (xs := ([t109, t110, t111, t113] : List Int)) (inner := [.int .i64 t109, .int .i64 t110, .int .i64 t111, .int .i64 t113]) (ok := fun _ => True) (okp := fun _ => True) ?hr ?hp (fun _ hk => hk) trivial (Below.refl _ _) (Nat.le_refl _) (by simp) ?_; (case hd => rfl); (case hg => rfl); (case hr => first | (go_simp; done) | (go_simp; rfl)); (case hp => exact (Reps.one (show Kd.M (Kd.int .i64) _ _ _ t109 [.int .i64 t109] from rfl) (Reps.one (show Kd.M (Kd.int .i64) _ _ _ t110 [.int .i64 t110] from rfl) (Reps.one (show Kd.M (Kd.int .i64) _ _ _ t111 [.int .i64 t111] from rfl) (Reps.one (show Kd.M (Kd.int .i64) _ _ _ t113 [.int .i64 t113] from rfl) (Reps.none _ _))))))
         intro v115 w46 ho47 hb hg_ hnew_
         clear hg_ hnew_
         (first | rw [← Ny114.out] at ho47 | (simp only [Int.reduceToNat] at ho47; rw [← Ny114.out] at ho47))
         have n0_ := Aside0.mk (Kd.R_lower ho47 (below_size (wg_ HB.out GE108.out)))
         have n1_ := Aside0.mk (blk_below (g := gb108) (o := .cells #[.int .i64 ((rd_T156 l0 x24_1).f0), .slice A107_1 ((rd_T156 l0 x24_1).f1).length c107_1] 156 (0, 0)) (bs_ BK108.out) hb)
         have n2_ := Aside0.mk (below_step (wg_ HB.out GE108.out) hb)
         clear BK108
         clear HB
         have HO116 := n0_
         have BK108 := n1_
         have HB := n2_
         clear n0_ n1_ n2_
         clear hb ho47
         obtain ⟨Ao48, co48, eo48⟩ := Kd.R_slice HO116.out
         (first | subst eo48 | (injection eo48 with f1_ f2_ f3_; have f4_ := f1_.symm; have f5_ := f3_.symm; clear f1_ f2_ f3_; subst f4_; subst f5_))
         refine hK.out _ _ ⟨(blk_cell BK108.out 0).trans rfl, (blk_cell BK108.out 1).trans rfl, ((HB.out.cell (World.block_lt_of_cell? w _ hw112_0)).trans hw112_0), ((HB.out.cell (World.block_lt_of_cell? w _ hw112_1)).trans hw112_1)⟩ (fun hHeld => ?_)
         clear hK K
         refine norm_ (a' := ?_) ?_ ?_
         rotate_left
         ·show Act.put _ (some 48) _ = _
          simp only [Act.put, List.setIfInBounds_toArray, List.set_cons_zero, List.set_cons_succ, i64_w, i32_w]
          rfl
         refine one_ (i := 18) (N := some 49) #[true, true, true, true, true, true, true, true, true, true, true, true, true, true, true, true, true, true, true, false] rfl rfl (one_of HT_.out (by kernel_rfl)) (by decide) (fun K hK => ?_)
         refine goes_ Tryz.func85 (by kernel_rfl) rfl #[.slice Ao48 y114.length co48] (by rfl) rfl rfl (by (try simp only [List.map_toArray, List.map_cons, List.map_nil]); first | done | rfl | (simp only [List.length_drop, List.length_take]; rfl)) ?_
         with_reducible refine (market_first.calls k1 _ _ y114 t117 _ ?side1 ?side2 A17.out).mono ?_
         (case side1 => repeat (first | exact (Kd.R_reads' HO116.out).2.2 | (with_reducible refine Kd.C_alloc ?_ _) | (with_reducible refine Kd.C_drewN ?_ _) | (with_reducible refine Kd.C_drew ?_)))
         (case side2 => exact (Kd.R_reads' HO116.out).2.1)
         rintro e w' ⟨rfl, ⟨nd, rfl⟩⟩
         refine ⟨_, rfl, ?_⟩
         refine hK.out _ _ ⟨(blk_cell BK108.out 0).trans rfl, (blk_cell BK108.out 1).trans rfl, ((HB.out.cell (World.block_lt_of_cell? w _ hw112_0)).trans hw112_0), ((HB.out.cell (World.block_lt_of_cell? w _ hw112_1)).trans hw112_1)⟩ (fun hHeld => ?_)
         clear hK K
         refine norm_ (a' := ?_) ?_ ?_
         rotate_left
         ·show Act.put _ (some 49) _ = _
          simp only [Act.put, List.setIfInBounds_toArray, List.set_cons_zero, List.set_cons_succ, i64_w, i32_w]
          rfl
         refine pv_ 19 7 #[true, true, true, true, true, true, true, true, true, true, true, true, true, true, true, true, true, true, true, true] (any_of HT_.out (by kernel_rfl)) ?_
         refine done_ (done_of HT_.out (by kernel_rfl)) ?_
         try go_wp2
         go_ret
         exact ⟨by first | rfl | (simp [errW_none, errW_some] <;> rfl) | (simp [*, errW_none, errW_some] <;> rfl), by repeat (first | (with_reducible first | exact HB.out | apply below_alloc | apply pw_below_drewN | apply below_drew1 | refine below_set ?_ GE108.out) | exact HB.out)⟩
       ·rw [if_neg c15] at H
        exact absurd H (by simp)
      ·rw [if_neg c11] at H
       exact absurd H (by simp)
     ·rw [if_neg c10] at H
      exact absurd H (by simp)
    ·rw [if_neg c9] at H
     have c9b0 : decide (x24_1 < (l0.length : Int)) = false := decide_eq_false c9
     clear c9
     obtain rfl := Option.some.inj H
     go_wp2
     go_ret
     exact ⟨by first | rfl | (simp [errW_none, errW_some] <;> rfl) | (simp [*, errW_none, errW_some] <;> rfl), by repeat (first | (with_reducible first | exact HB.out | apply below_alloc | apply pw_below_drewN | apply below_drew1) | exact HB.out)⟩
 ·rw [if_neg c5] at H
  have c5b0 : (t106 == 0) = false := beq_eq_false_iff_ne.mpr c5
  have c5b1 : (t106 != 0) = true := bne_iff_ne.mpr c5
  obtain rfl := Option.some.inj H
  go_enter Tryz.func24, Tryz.ntmps24
  go_wp2_with (first | ((with_reducible refine gate_callee (f := 90) rfl ?_); refine gl_ (some 12) Tryz.func90 #[.bool ((l0.length : Int) == 0), .int .i64 12] ?_; (with_reducible refine (market_when.calls ((l0.length : Int) == 0) 12 t101 _ A2.out).mono ?_); rintro e w' ⟨rfl, ⟨nd, rfl⟩⟩; refine ⟨_, rfl, ?_⟩) | ((with_reducible refine gate_callee (f := 90) rfl ?_); refine gl_ (some 16) Tryz.func90 #[.bool (decide ((l0.length : Int) > 16)), .int .i64 5] ?_; (with_reducible refine (market_when.calls (decide ((l0.length : Int) > 16)) 5 t102 _ A3.out).mono ?_); rintro e w' ⟨rfl, ⟨nd, rfl⟩⟩; refine ⟨_, rfl, ?_⟩) | ((with_reducible refine gate_dst (N := 17) rfl ?_); refine Kd.R_lit (Kd.int .i64) _ 28 ?hg (N := 17) ?hd (xs := ([t101, t102] : List Int)) (inner := [.int .i64 t101, .int .i64 t102]) (ok := fun _ => True) (okp := fun _ => True) ?hr ?hp (fun _ hk => hk) trivial (Below.refl _ _) (Nat.le_refl _) (by simp) ?_; (case hd => rfl); (case hg => rfl); (case hr => first | (go_simp; done) | (go_simp; rfl)); (case hp => exact (Reps.one (show Kd.M (Kd.int .i64) _ _ _ t101 [.int .i64 t101] from rfl) (Reps.one (show Kd.M (Kd.int .i64) _ _ _ t102 [.int .i64 t102] from rfl) (Reps.none _ _)))); intro v104 w49 ho50 hb hg_ hnew_; clear hg_ hnew_; (first | rw [← Ny103.out] at ho50 | (simp only [Int.reduceToNat] at ho50; rw [← Ny103.out] at ho50)); have n0_ := Aside0.mk (Kd.R_lower ho50 (below_size (ws_ HB.out))); have n1_ := Aside0.mk (below_step (ws_ HB.out) hb); clear HB; have HO105 := n0_; have HB := n1_; clear n0_ n1_; clear hb ho50; obtain ⟨Ao51, co51, eo51⟩ := Kd.R_slice HO105.out; subst eo51) | ((with_reducible refine gate_callee (f := 85) rfl ?_); refine gl_ (some 18) Tryz.func85 #[.slice Ao51 y103.length co51] ?_; (with_reducible refine (market_first.calls k _ _ y103 t106 _ ?side1 ?side2 A4.out).mono ?_); (case side1 => repeat (first | exact (Kd.R_reads' HO105.out).2.2 | (with_reducible refine Kd.C_alloc ?_ _) | (with_reducible refine Kd.C_drewN ?_ _) | (with_reducible refine Kd.C_drew ?_))); (case side2 => exact (Kd.R_reads' HO105.out).2.1); rintro e w' ⟨rfl, ⟨nd, rfl⟩⟩; refine ⟨_, rfl, ?_⟩))
  go_ret
  exact ⟨by first | rfl | (simp [errW_none, errW_some] <;> rfl) | (simp [*, errW_none, errW_some] <;> rfl), by repeat (first | (with_reducible first | exact HB.out | apply below_alloc | apply pw_below_drewN | apply below_drew1) | exact HB.out)⟩
/-! ### market_checkQuarter: function 94 -/
def market_checkQuarter.f (k : Nat) (l0 : List (S156)) (a1 : Int) : Option (Int) := (market_CheckEnsemble.f k l0).bind fun t101 => (if t101 = 0 then (if a1 < 0 then ((market_when.f true 10).bind fun t102 => (some t102)) else (if 0 < (l0.length : Int) then ((market_when.f (decide (a1 ≥ (((rd_T156 l0 0).f1).length : Int))) 10).bind fun t104 => (some t104)) else (none))) else (some t101))
set_option maxHeartbeats 8000000 in
set_option maxRecDepth 100000 in
theorem market_checkQuarter.calls (k : Nat) (A0 : Option Addr) (c0 : Nat) (l0 : List (S156)) (a1 : Int) (r : Int) (w : World) (hr0 : Kd.C k156 w A0 l0.length l0) (hc0 : l0.length ≤ c0) (h : market_checkQuarter.f k l0 a1 = some r) :
  Calls Tryz.prog 94 #[.slice A0 l0.length c0, .int .i64 a1] w fun e w' => e = .returned (.int .i64 r) ∧ Below w.heap.size w w' := by
 have HR0 := Aside0.mk hr0
 have HC0 := Aside0.mk hc0
 clear hr0 hc0
 have HB := Aside0.mk (Below.refl w.heap.size w)
 have H : ((market_CheckEnsemble.f k l0).bind fun t101 => (if t101 = 0 then (if a1 < 0 then ((market_when.f true 10).bind fun t102 => (some t102)) else (if 0 < (l0.length : Int) then ((market_when.f (decide (a1 ≥ (((rd_T156 l0 0).f1).length : Int))) 10).bind fun t104 => (some t104)) else (none))) else (some t101))) = some r := h
 clear h
 replace H := Option.bind_eq_some_iff.mp H
 obtain ⟨t101, A30, H⟩ := H
 replace H : (if t101 = 0 then (if a1 < 0 then ((market_when.f true 10).bind fun t102 => (some t102)) else (if 0 < (l0.length : Int) then ((market_when.f (decide (a1 ≥ (((rd_T156 l0 0).f1).length : Int))) 10).bind fun t104 => (some t104)) else (none))) else (some t101)) = some r := H
 have A3 := Aside0.mk A30
 clear A30
 by_cases c4 : t101 = 0
 ·rw [if_pos c4] at H
  have c4b0 : (t101 == 0) = true := beq_iff_eq.mpr c4
  have c4b1 : (t101 != 0) = false := bne_eq_false_iff_eq.mpr c4
  clear c4
  by_cases c5 : a1 < 0
  ·rw [if_pos c5] at H
   have c5b0 : decide (a1 < 0) = true := decide_eq_true c5
   clear c5
   replace H := Option.bind_eq_some_iff.mp H
   obtain ⟨t102, A60, H⟩ := H
   replace H : (some t102) = some r := H
   have A6 := Aside0.mk A60
   clear A60
   obtain rfl := Option.some.inj H
   go_enter Tryz.func94, Tryz.ntmps94
   go_wp2_with (first | ((with_reducible refine gate_callee (f := 24) rfl ?_); refine gl_ (some 7) Tryz.func24 #[.slice A0 l0.length c0] ?_; (with_reducible refine (market_CheckEnsemble.calls k _ _ l0 t101 _ ?side1 ?side2 A3.out).mono ?_); (case side1 => exact cs_ HR0.out); (case side2 => exact HC0.out); rintro e w7 ⟨rfl, hb⟩; refine ⟨_, rfl, ?_⟩; have n0_ := Aside0.mk (below_step (ws_ HB.out) hb); clear HB; have HB := n0_; clear n0_; (try clear hb); (try clear hb2); (try clear hk); (try clear hi)) | ((with_reducible refine gate_callee (f := 90) rfl ?_); refine gl_ (some 22) Tryz.func90 #[.bool true, .int .i64 10] ?_; (with_reducible refine (market_when.calls true 10 t102 _ A6.out).mono ?_); rintro e w' ⟨rfl, ⟨nd, rfl⟩⟩; refine ⟨_, rfl, ?_⟩))
   go_ret
   exact ⟨by first | rfl | (simp [errW_none, errW_some] <;> rfl) | (simp [*, errW_none, errW_some] <;> rfl), by repeat (first | (with_reducible first | exact HB.out | apply below_alloc | apply pw_below_drewN | apply below_drew1) | exact HB.out)⟩
  ·rw [if_neg c5] at H
   have c5b0 : decide (a1 < 0) = false := decide_eq_false c5
   clear c5
   by_cases c8 : 0 < (l0.length : Int)
   ·rw [if_pos c8] at H
    have c8b0 : decide (0 < (l0.length : Int)) = true := decide_eq_true c8
    have c8b1 : decide (0 < l0.length) = true := decide_eq_true (by omega)
    clear c8
    replace H := Option.bind_eq_some_iff.mp H
    obtain ⟨t104, A90, H⟩ := H
    replace H : (some t104) = some r := H
    have A9 := Aside0.mk A90
    clear A90
    obtain rfl := Option.some.inj H
    go_enter Tryz.func94, Tryz.ntmps94
    go_wp2_with (first | ((with_reducible refine gate_callee (f := 24) rfl ?_); refine gl_ (some 7) Tryz.func24 #[.slice A0 l0.length c0] ?_; (with_reducible refine (market_CheckEnsemble.calls k _ _ l0 t101 _ ?side1 ?side2 A3.out).mono ?_); (case side1 => exact cs_ HR0.out); (case side2 => exact HC0.out); rintro e w10 ⟨rfl, hb⟩; refine ⟨_, rfl, ?_⟩; have n0_ := Aside0.mk (below_step (ws_ HB.out) hb); clear HB; have HB := n0_; clear n0_; (try clear hb); (try clear hb2); (try clear hk); (try clear hi); have p103 : 0 ≤ (0 : Int) := (by omega); have q103 : 0 < (l0.length : Int) := of_decide_eq_true (by first | (with_reducible assumption) | assumption); obtain ⟨ad103, A103_1, c103_1, e103, hx103_0, hx103_1, hl103_1, hi103_1⟩ := at_T156 HR0.out 0 p103 q103; cases e103; have qi103 : (0 < l0.length) = True := eq_true (by omega); (try rw [show ((0 : Int)).toNat = 0 from rfl] at hx103_0); (try rw [show 0 * 2 = 0 from rfl] at hx103_0); (try rw [Addr.add_zero'] at hx103_0); (try rw [show ((0 : Int)).toNat = 0 from rfl] at hx103_1); (try rw [show 0 * 2 = 0 from rfl] at hx103_1); (try rw [Addr.add_zero'] at hx103_1); replace hx103_0 := (HB.out.cell (World.block_lt_of_cell? w _ hx103_0)).trans hx103_0; replace hx103_1 := (HB.out.cell (World.block_lt_of_cell? w _ hx103_1)).trans hx103_1; have HR103_1 := Aside0.mk hi103_1; have HC103_1 := Aside0.mk hl103_1; clear hi103_1 hl103_1; replace p103 := eq_true p103; replace q103 := eq_true q103) | ((with_reducible refine gate_callee (f := 90) rfl ?_); refine gl_ (some 22) Tryz.func90 #[.bool (decide (a1 ≥ (((rd_T156 l0 0).f1).length : Int))), .int .i64 10] ?_; (with_reducible refine (market_when.calls (decide (a1 ≥ (((rd_T156 l0 0).f1).length : Int))) 10 t104 _ A9.out).mono ?_); rintro e w' ⟨rfl, ⟨nd, rfl⟩⟩; refine ⟨_, rfl, ?_⟩))
    go_ret
    exact ⟨by first | rfl | (simp [errW_none, errW_some] <;> rfl) | (simp [*, errW_none, errW_some] <;> rfl), by repeat (first | (with_reducible first | exact HB.out | apply below_alloc | apply pw_below_drewN | apply below_drew1) | exact HB.out)⟩
   ·rw [if_neg c8] at H
    exact absurd H (by simp)
 ·rw [if_neg c4] at H
  have c4b0 : (t101 == 0) = false := beq_eq_false_iff_ne.mpr c4
  have c4b1 : (t101 != 0) = true := bne_iff_ne.mpr c4
  obtain rfl := Option.some.inj H
  go_enter Tryz.func94, Tryz.ntmps94
  go_wp2_with (first | ((with_reducible refine gate_callee (f := 24) rfl ?_); refine gl_ (some 7) Tryz.func24 #[.slice A0 l0.length c0] ?_; (with_reducible refine (market_CheckEnsemble.calls k _ _ l0 t101 _ ?side1 ?side2 A3.out).mono ?_); (case side1 => exact cs_ HR0.out); (case side2 => exact HC0.out); rintro e w11 ⟨rfl, hb⟩; refine ⟨_, rfl, ?_⟩; have n0_ := Aside0.mk (below_step (ws_ HB.out) hb); clear HB; have HB := n0_; clear n0_; (try clear hb); (try clear hb2); (try clear hk); (try clear hi)))
  go_ret
  exact ⟨by first | rfl | (simp [errW_none, errW_some] <;> rfl) | (simp [*, errW_none, errW_some] <;> rfl), by repeat (first | (with_reducible first | exact HB.out | apply below_alloc | apply pw_below_drewN | apply below_drew1) | exact HB.out)⟩
/-! ### market_ratio: function 95 -/
def market_ratio.l0 : Nat → Int → Int → Int → Int → Option (Int × Int)
 | 0, _, _, _, _ => none
 | k + 1, x0, x1, x5, x6 => if x6 = 0 then (if x5 = 0 then (none) else (some (wrap64 (Int.tdiv x0 x5), wrap64 (Int.tdiv x1 x5)))) else (market_ratio.l0 k x0 x1 x6 (Int.tmod x5 x6))
def market_ratio.f (k : Nat) (a0 : Int) (a1 : Int) : Option (Int × Int) := market_ratio.l0 k a0 a1 (mx a0 (wrap64 (-a0))) a1
def market_ratio.T4 : Bool × List (List Nat × List Nat) := (true, [([], []), ([], []), ([0, 1], [0, 1]), ([], []), ([], []), ([3, 4], [3, 4]), ([2, 5], [2, 5]), ([6, 0, 1, 2, 3, 4, 5, 6], [6])])
def market_ratio.B4 : List Nat := [0, 0, 3, 0, 0, 24, 63, 127]
theorem market_ratio.tab4 : rtab .any (opsOf Tryz.f95 4) = market_ratio.T4 := by kernel_rfl
theorem market_ratio.bits4 : waitsOk market_ratio.T4.2 market_ratio.B4 = true := by kernel_rfl
set_option maxHeartbeats 8000000 in
set_option maxRecDepth 100000 in
theorem market_ratio.calls (k : Nat) (a0 : Int) (a1 : Int) (r1 : Int) (r2 : Int) (w : World) (h : market_ratio.f k a0 a1 = some (r1, r2)) :
  Calls Tryz.prog 95 #[.int .i64 a0, .int .i64 a1] w fun e w' => e = .returned (.agg #[.int .i64 r1, .int .i64 r2]) ∧ Below w.heap.size w w' := by
 have hu43 := Tryz.underlying43
 have HB := Aside0.mk (Below.refl w.heap.size w)
 have H : (market_ratio.l0 k a0 a1 (mx a0 (wrap64 (-a0))) a1) = some (r1, r2) := h
 clear h
 obtain ⟨ji3, hji3⟩ : ∃ j_ : Int, (mx a0 (wrap64 (-a0))) = j_ := ⟨_, rfl⟩
 replace H : (market_ratio.l0 k a0 a1 ji3 a1) = some (r1, r2) := by first | (rw [hji3] at H; exact H) | (simp only [hji3] at H ⊢; exact H)
 have hji3_ : (if a0 < (wrap64 (-a0)) then (wrap64 (-a0)) else a0) = ji3 := hji3
 have H' := Aside0.mk H
 clear H
 go_enter Tryz.func95, Tryz.ntmps95
 go_wp2_with (first | ((with_reducible refine gate_dst (N := 4) rfl ?_); refine box_event ?hg (N := 4) ?hd (cs := #[.int .i64 0, .int .i64 0]) (t := 43) ?hr ?_; (case hd => rfl); (case hg => rfl); (case hr => first | (go_simp; done) | (go_simp; rfl)); intro gb101 hg w4 hbox hb; have n0_ := Aside0.mk (below_step (ws_ HB.out) hb); have n1_ := Aside0.mk (hbox); have n2_ := Aside0.mk ((by rw [hg]; exact (below_size (ws_ HB.out)) : w.heap.size ≤ gb101)); have n3_ := Aside0.mk ((by rw [hg]; exact (below_size (ws_ HB.out)) : w.heap.size ≤ gb101)); clear HB; have HB := n0_; have BK101 := n1_; have GW101 := n2_; have GE101 := n3_; clear n0_ n1_ n2_ n3_; clear hb hbox hg))
 go_loopg [5, 6] k (fun kq v5 v6 w' => ∃ (x5_1 : Int) (x6_1 : Int), v5 = .int .i64 x5_1 ∧ v6 = .int .i64 x6_1 ∧ Aside0 (market_ratio.l0 kq a0 a1 x5_1 x6_1 = some (r1, r2)) ∧ Aside0 (kq ≤ k) ∧ Aside0 (w'.heap[gb101]? = some (.cells #[.int .i64 0, .int .i64 0] 43 (0, 0))) ∧ Aside0 (Below w.heap.size w w'))
 case atStart => exact ⟨(ji3), (a1), (by first | rfl | (simp; done) | (simp only [← hji3] <;> (first | rfl | simp)) | (simp [*]; done)), (by first | rfl | (simp; done) | (simp [*]; done)), H', ⟨Nat.le_refl _⟩, ⟨by (with_reducible repeat (first | refine blk_drewN ?_ _ | refine blk_drew ?_ | refine blk_alloc ?_ _)); exact BK101.out⟩, ⟨by repeat (first | (with_reducible first | exact HB.out | apply below_alloc | apply pw_below_drewN | apply below_drew1 | refine below_set ?_ GE101.out) | exact HB.out)⟩⟩
 case round =>
  clear H'
  try clear p2
  obtain ⟨x5_1, x6_1, rfl, rfl, HA, HK1, BK101, HB⟩ := hrel
  cases gk with
  | zero => exact absurd HA.out (by simp [market_ratio.l0])
  | succ k1 =>
   have H := HA.out
   clear HA
   simp only [market_ratio.l0] at H
   by_cases c5 : x6_1 = 0
   ·rw [if_pos c5] at H
    have c5b0 : (x6_1 == 0) = true := beq_iff_eq.mpr c5
    have c5b1 : (x6_1 != 0) = false := bne_eq_false_iff_eq.mpr c5
    clear c5
    by_cases c6 : x5_1 = 0
    ·rw [if_pos c6] at H
     exact absurd H (by simp)
    ·rw [if_neg c6] at H
     have c6b0 : (x5_1 == 0) = false := beq_eq_false_iff_ne.mpr c6
     have c6b1 : (x5_1 != 0) = true := bne_iff_ne.mpr c6
     simp only [Option.some.injEq, Prod.mk.injEq] at H
     obtain ⟨rfl, rfl⟩ := H
     try go_wp2
     have n0_ := Aside0.mk (blk_drew BK101.out)
     have n1_ := Aside0.mk (below_drew1 HB.out)
     clear BK101
     clear HB
     have BK101 := n0_
     have HB := n1_
     clear n0_ n1_
     refine start_ (n := 8) (S := fun w' => True) (ds := []) #[false, false, false, false, false, false, false, false] (by kernel_rfl) rfl rfl trivial (fun hHeld => ?_); refine with_tabW market_ratio.tab4 market_ratio.bits4 (fun HT_ HW_ => ?_)
     generalize wr.drew = w7 at BK101 HB hHeld ⊢
     refine pv_ 0 18 #[true, false, false, false, false, false, false, false] (any_of HT_.out (by kernel_rfl)) ?_
     refine pv_ 1 19 #[true, true, false, false, false, false, false, false] (any_of HT_.out (by kernel_rfl)) ?_
     refine pv_ 2 20 #[true, true, true, false, false, false, false, false] (any_of HT_.out (by kernel_rfl)) ?_
     refine pv_ 3 21 #[true, true, true, true, false, false, false, false] (any_of HT_.out (by kernel_rfl)) ?_
     refine pv_ 4 22 #[true, true, true, true, true, false, false, false] (any_of HT_.out (by kernel_rfl)) ?_
     refine pv_ 5 23 #[true, true, true, true, true, true, false, false] (any_of HT_.out (by kernel_rfl)) ?_
     refine pv_ 6 24 #[true, true, true, true, true, true, true, false] (any_of HT_.out (by kernel_rfl)) ?_
     refine one_ (i := 7) (N := none) #[true, true, true, true, true, true, true, true] rfl rfl (one_of HT_.out (by kernel_rfl)) (by decide) (fun K hK => ?_)
     have hs8 : w7.cell? ⟨gb101, 0, none⟩ = some (.int .i64 0) := (blk_cell BK101.out 0).trans rfl
     have hfs8 := blk_frozen BK101.out 0
     have hs9 : w7.cell? ⟨gb101, 1, none⟩ = some (.int .i64 0) := (blk_cell BK101.out 1).trans rfl
     have hfs9 := blk_frozen BK101.out 1
     refine skip_ (w1 := ?_) (by rfl) rfl ?_ ?_
     rotate_left
     ·go_simp
      rfl
     refine hK.out _ _ trivial (fun hHeld => ?_)
     clear hK K
     refine done_ (done_of HT_.out (by kernel_rfl)) ?_
     try go_wp2
     refine bodyPost_ret (results_cell_row rfl _ _ gb101 43 #[.int .i64 (wrap64 (Int.tdiv a0 x5_1)), .int .i64 (wrap64 (Int.tdiv a1 x5_1))] (0, 0) _ rfl (by (with_reducible repeat (first | refine blk_drewN ?_ _ | refine blk_drew ?_ | refine blk_alloc ?_ _)); refine blk_put (cs := #[.int .i64 (wrap64 (Int.tdiv a0 x5_1)), .int .i64 0]) ?_ 1 _ rfl; (with_reducible repeat (first | refine blk_drewN ?_ _ | refine blk_drew ?_ | refine blk_alloc ?_ _)); refine blk_put (cs := #[.int .i64 0, .int .i64 0]) ?_ 0 _ rfl; (with_reducible repeat (first | refine blk_drewN ?_ _ | refine blk_drew ?_ | refine blk_alloc ?_ _)); exact BK101.out) Tryz.underlying43 rfl (by kernel_rfl)) rfl ?_
     exact ⟨by first | rfl | (simp [errW_none, errW_some] <;> rfl) | (simp only [← hji3]; first | rfl | (simp [errW_none, errW_some] <;> rfl)) | (simp [*, errW_none, errW_some] <;> rfl), by repeat (first | (with_reducible first | exact HB.out | apply below_alloc | apply pw_below_drewN | apply below_drew1 | refine below_set ?_ GE101.out) | exact HB.out)⟩
   ·rw [if_neg c5] at H
    have c5b0 : (x6_1 == 0) = false := beq_eq_false_iff_ne.mpr c5
    have c5b1 : (x6_1 != 0) = true := bne_iff_ne.mpr c5
    have H' := Aside0.mk H
    clear H
    try go_wp2
    have n0_ := Aside0.mk (blk_drew BK101.out)
    have n1_ := Aside0.mk (below_drew1 HB.out)
    clear BK101
    clear HB
    have BK101 := n0_
    have HB := n1_
    clear n0_ n1_
    refine start_ (n := 6) (S := fun w' => True) (ds := []) #[false, false, false, false, false, false] (by kernel_rfl) rfl rfl trivial (fun hHeld => ?_)
    generalize wr.drew = w10 at BK101 HB hHeld ⊢
    refine pure_ (i := 0) (N := some 14) (v := ?_) (a' := ?_) #[true, false, false, false, false, false] rfl rfl (by kernel_rfl) (fun _ _ _ h => h) (Or.inl ⟨by rfl, ?_⟩) ?_ ?_
    rotate_left
    ·intro w'
     go_simp
     with_reducible rfl
    rotate_left
    ·simp only [Act.put, List.setIfInBounds_toArray, List.set_cons_zero, List.set_cons_succ, i64_w, i32_w]
     rfl
    refine pure_ (i := 1) (N := some 15) (v := ?_) (a' := ?_) #[true, true, false, false, false, false] rfl rfl (by kernel_rfl) (fun _ _ _ h => h) (Or.inl ⟨by rfl, ?_⟩) ?_ ?_
    rotate_left
    ·intro w'
     go_simp
     with_reducible rfl
    rotate_left
    ·simp only [Act.put, List.setIfInBounds_toArray, List.set_cons_zero, List.set_cons_succ, i64_w, i32_w]
     rfl
    refine pure_ (i := 2) (N := some 16) (v := ?_) (a' := ?_) #[true, true, true, false, false, false] rfl rfl (by kernel_rfl) (fun _ _ _ h => h) (Or.inl ⟨by rfl, ?_⟩) ?_ ?_
    rotate_left
    ·intro w'
     go_simp
     with_reducible rfl
    rotate_left
    ·simp only [Act.put, List.setIfInBounds_toArray, List.set_cons_zero, List.set_cons_succ, i64_w, i32_w]
     rfl
    refine pure_ (i := 3) (N := some 17) (v := ?_) (a' := ?_) #[true, true, true, true, false, false] rfl rfl (by kernel_rfl) (fun _ _ _ h => h) (Or.inl ⟨by rfl, ?_⟩) ?_ ?_
    rotate_left
    ·intro w'
     go_simp
     with_reducible rfl
    rotate_left
    ·simp only [Act.put, List.setIfInBounds_toArray, List.set_cons_zero, List.set_cons_succ, i64_w, i32_w]
     rfl
    refine pure_ (i := 4) (N := some 5) (v := ?_) (a' := ?_) #[true, true, true, true, true, false] rfl rfl (by kernel_rfl) (fun _ _ _ h => h) (Or.inl ⟨by rfl, ?_⟩) ?_ ?_
    rotate_left
    ·intro w'
     go_simp
     with_reducible rfl
    rotate_left
    ·simp only [Act.put, List.setIfInBounds_toArray, List.set_cons_zero, List.set_cons_succ, i64_w, i32_w]
     rfl
    refine pure_ (i := 5) (N := some 6) (v := ?_) (a' := ?_) #[true, true, true, true, true, true] rfl rfl (by kernel_rfl) (fun _ _ _ h => h) (Or.inl ⟨by rfl, ?_⟩) ?_ ?_
    rotate_left
    ·intro w'
     go_simp
     with_reducible rfl
    rotate_left
    ·simp only [Act.put, List.setIfInBounds_toArray, List.set_cons_zero, List.set_cons_succ, i64_w, i32_w]
     rfl
    refine done_ (by kernel_rfl) ?_
    try go_wp2
    go_roundg k1
    case measure => have := HK1.out; omega
    case rel => exact ⟨(x6_1), (Int.tmod x5_1 x6_1), (by first | rfl | (simp; done) | (simp [*]; done)), (by first | rfl | (simp; done) | (simp [*]; done)), H', ⟨by have := HK1.out; omega⟩, ⟨by (with_reducible repeat (first | refine blk_drewN ?_ _ | refine blk_drew ?_ | refine blk_alloc ?_ _)); exact BK101.out⟩, ⟨by repeat (first | (with_reducible first | exact HB.out | apply below_alloc | apply pw_below_drewN | apply below_drew1 | refine below_set ?_ GE101.out) | exact HB.out)⟩⟩
/-! ### market_weight_1: function 144 -/
def market_weight_1.f (a0_0 : Int) (l0_1 : List Int) : Option (Int) := some a0_0
set_option maxHeartbeats 8000000 in
set_option maxRecDepth 100000 in
theorem market_weight_1.calls (a0_0 : Int) (A0_1 : Option Addr) (c0_1 : Nat) (l0_1 : List Int) (r : Int) (w : World) (hr0_1 : Kd.C (Kd.int .i64) w A0_1 l0_1.length l0_1) (hc0_1 : l0_1.length ≤ c0_1) (h : market_weight_1.f a0_0 l0_1 = some r) :
  Calls Tryz.prog 144 #[.agg #[.int .i64 a0_0, .slice A0_1 l0_1.length c0_1]] w fun e w' => e = .returned (.int .i64 r) ∧ Below w.heap.size w w' := by
 have hu156 := Tryz.underlying156
 have HR0_1 := Aside0.mk hr0_1
 have HC0_1 := Aside0.mk hc0_1
 clear hr0_1 hc0_1
 have HB := Aside0.mk (Below.refl w.heap.size w)
 have H : (some a0_0) = some r := h
 clear h
 obtain rfl := Option.some.inj H
 go_enter Tryz.func144, Tryz.ntmps144
 go_wp2_with (first | ((with_reducible refine gate_dst (N := 1) rfl ?_); refine box_event ?hg (N := 1) ?hd (cs := #[.int .i64 a0_0, .slice A0_1 l0_1.length c0_1]) (t := 156) ?hr ?_; (case hd => rfl); (case hg => rfl); (case hr => first | (go_simp; done) | (go_simp; rfl)); intro gb101 hg w2 hbox hb; have n0_ := Aside0.mk (below_step (ws_ HB.out) hb); have n1_ := Aside0.mk (hbox); have n2_ := Aside0.mk ((by rw [hg]; exact (below_size (ws_ HB.out)) : w.heap.size ≤ gb101)); have n3_ := Aside0.mk ((by rw [hg]; exact (below_size (ws_ HB.out)) : w.heap.size ≤ gb101)); clear HB; have HB := n0_; have BK101 := n1_; have GW101 := n2_; have GE101 := n3_; clear n0_ n1_ n2_ n3_; clear hb hbox hg; have hcz3_0 : w2.cell? ⟨gb101, 0, none⟩ = some (.int .i64 a0_0) := (blk_cell BK101.out 0).trans rfl; have hcz3_1 : w2.cell? ⟨gb101, 1, none⟩ = some (.slice A0_1 l0_1.length c0_1) := (blk_cell BK101.out 1).trans rfl; have hfz3_0 := blk_frozen BK101.out 0; have hfz3_1 := blk_frozen BK101.out 1))
 go_ret
 exact ⟨by first | rfl | (simp [errW_none, errW_some] <;> rfl) | (simp [*, errW_none, errW_some] <;> rfl), by repeat (first | (with_reducible first | exact HB.out | apply below_alloc | apply pw_below_drewN | apply below_drew1 | refine below_set ?_ GE101.out) | exact HB.out)⟩
/-! ### market_Scenario_int__market_weight_1: function 118 -/
def market_Scenario_int__market_weight_1.l0 : Nat → List Int → List (S156) → Int → Int → Option (List Int)
 | 0, _, _, _, _ => none
 | k + 1, x5, x8, x9, x10 => if x10 < x9 then (if 0 ≤ x10 then (if x10 < (x8.length : Int) then ((market_weight_1.f ((rd_T156 x8 x10).f0) ((rd_T156 x8 x10).f1)).bind fun t103 => (if x5.length < 17592186044416 then (market_Scenario_int__market_weight_1.l0 k (x5 ++ [t103]) x8 x9 (wrap64 (x10 + 1))) else (none))) else (none)) else (none)) else (some x5)
def market_Scenario_int__market_weight_1.f (k : Nat) (l0 : List (S156)) (a1 : Unit) : Option (List Int) := market_Scenario_int__market_weight_1.l0 k ([] : List Int) l0 (l0.length : Int) 0
set_option maxHeartbeats 8000000 in
set_option maxRecDepth 100000 in
theorem market_Scenario_int__market_weight_1.calls (k : Nat) (A0 : Option Addr) (c0 : Nat) (l0 : List (S156)) (a1 : Unit) (r : List Int) (w : World) (hr0 : Kd.C k156 w A0 l0.length l0) (hc0 : l0.length ≤ c0) (h : market_Scenario_int__market_weight_1.f k l0 a1 = some r) :
  Calls Tryz.prog 118 #[.slice A0 l0.length c0, .func (.func 144) #[] #[]] w fun e w' => ∃ v0_ : Value, e = .returned (v0_) ∧ Kd.R (Kd.int .i64) 3 w' w.heap.size (fun _ => True) v0_ r ∧ Below w.heap.size w w' := by
 have hu156 := Tryz.underlying156
 have HR0 := Aside0.mk hr0
 have HC0 := Aside0.mk hc0
 clear hr0 hc0
 have HB := Aside0.mk (Below.refl w.heap.size w)
 have H : (market_Scenario_int__market_weight_1.l0 k ([] : List Int) l0 (l0.length : Int) 0) = some r := h
 clear h
 have H' := Aside0.mk H
 clear H
 go_enter Tryz.func118, Tryz.ntmps118
 go_wp2
 go_loopg [5, 10] k (fun kq v5 v10 w' => ∃ (x5_1 : List Int) (x10_1 : Int), v10 = .int .i64 x10_1 ∧ Aside0 (market_Scenario_int__market_weight_1.l0 kq x5_1 l0 (l0.length : Int) x10_1 = some r) ∧ Aside0 (kq ≤ k) ∧ Aside0 (Kd.R (Kd.int .i64) 3 w' w.heap.size (fun _ => True) v5 x5_1) ∧ Aside0 (Below w.heap.size w w'))
 case atStart => exact ⟨(([] : List Int)), (0), (by first | rfl | (simp; done) | (simp [*]; done)), H', ⟨Nat.le_refl _⟩, ⟨by first | exact Kd.R_nil _ _ _ _ _ | exact Kd.N_nil _ _ _ _ _ | exact Kd.V_nil _ _ _ _ _ | exact Kd.Q_nil _ _ _ _ _ | exact Kd.S_nil _ _ _ _ _⟩, ⟨by repeat (first | (with_reducible first | exact HB.out | apply below_alloc | apply pw_below_drewN | apply below_drew1) | exact HB.out)⟩⟩
 case round =>
  clear H'
  try clear c1
  try clear p2
  obtain ⟨x5_1, x10_1, rfl, HA, HK1, HO_5, HB⟩ := hrel
  cases gk with
  | zero => exact absurd HA.out (by simp [market_Scenario_int__market_weight_1.l0])
  | succ k1 =>
   have H := HA.out
   clear HA
   simp only [market_Scenario_int__market_weight_1.l0] at H
   by_cases c3 : x10_1 < (l0.length : Int)
   ·rw [if_pos c3] at H
    have c3b0 : decide (x10_1 < (l0.length : Int)) = true := decide_eq_true c3
    clear c3
    by_cases c4 : 0 ≤ x10_1
    ·rw [if_pos c4] at H
     have c4b0 : decide (0 ≤ x10_1) = true := decide_eq_true c4
     clear c4
     by_cases c5 : x10_1 < (l0.length : Int)
     ·rw [if_pos c5] at H
      have c5b0 : decide (x10_1 < (l0.length : Int)) = true := decide_eq_true c5
      clear c5
      replace H := Option.bind_eq_some_iff.mp H
      obtain ⟨t103, A60, H⟩ := H
      replace H : (if x5_1.length < 17592186044416 then (market_Scenario_int__market_weight_1.l0 k1 (x5_1 ++ [t103]) l0 (l0.length : Int) (wrap64 (x10_1 + 1))) else (none)) = some r := H
      have A6 := Aside0.mk A60
      clear A60
      by_cases c7 : x5_1.length < 17592186044416
      ·rw [if_pos c7] at H
       have LMc7 := Aside0.mk c7
       clear c7
       obtain ⟨y104, hy104⟩ : ∃ y_ : List Int, y_ = (x5_1 ++ [t103]) := ⟨_, rfl⟩
       replace H : (market_Scenario_int__market_weight_1.l0 k1 y104 l0 (l0.length : Int) (wrap64 (x10_1 + 1))) = some r := by first | (rw [hy104]; with_reducible exact H) | (have H2_ := (Option.bind_some _ _).symm.trans H; rw [hy104]; with_reducible exact H2_) | (have H2_ := (Option.bind_some _ _).symm.trans H; with_reducible exact H2_) | with_reducible exact H | (rw [hy104]; exact H) | exact H
       have Ny104 := Aside0.mk hy104
       clear hy104
       have H' := Aside0.mk H
       clear H
       have p101 : 0 ≤ (x10_1 : Int) := of_decide_eq_true (by first | (with_reducible assumption) | assumption)
       have q101 : x10_1 < (l0.length : Int) := of_decide_eq_true (by first | (with_reducible assumption) | assumption)
       obtain ⟨ad101, A101_1, c101_1, e101, hx101_0, hx101_1, hl101_1, hi101_1⟩ := at_T156 HR0.out x10_1 p101 q101
       cases e101
       replace hx101_0 := (HB.out.cell (World.block_lt_of_cell? w _ hx101_0)).trans hx101_0
       replace hx101_1 := (HB.out.cell (World.block_lt_of_cell? w _ hx101_1)).trans hx101_1
       have HR101_1 := Aside0.mk hi101_1
       have HC101_1 := Aside0.mk hl101_1
       clear hi101_1 hl101_1
       replace p101 := eq_true p101
       replace q101 := eq_true q101
       go_wp2_with (first | ((with_reducible refine gate_dst (N := 7) rfl ?_); refine box_event ?hg (N := 7) ?hd (cs := #[.int .i64 0, .slice none 0 0]) (t := 156) ?hr ?_; (case hd => rfl); (case hg => rfl); (case hr => first | (go_simp; done) | (go_simp; rfl)); intro gb102 hg w8 hbox hb; have n0_ := Aside0.mk (Kd.R_below (rs_ HO_5.out) hb); have n1_ := Aside0.mk (below_step (ws_ HB.out) hb); have n2_ := Aside0.mk (hbox); have n3_ := Aside0.mk ((by rw [hg]; exact (below_size (ws_ HB.out)) : w.heap.size ≤ gb102)); have n4_ := Aside0.mk ((by rw [hg]; exact (below_size (ws_ HB.out)) : w.heap.size ≤ gb102)); clear HO_5; clear HB; have HO_5 := n0_; have HB := n1_; have BK102 := n2_; have GW102 := n3_; have GE102 := n4_; clear n0_ n1_ n2_ n3_ n4_; clear hb hbox hg; have hcz9_0 : w8.cell? ⟨gb102, 0, none⟩ = some (.int .i64 0) := (blk_cell BK102.out 0).trans rfl; have hcz9_1 : w8.cell? ⟨gb102, 1, none⟩ = some (.slice none 0 0) := (blk_cell BK102.out 1).trans rfl; have hfz9_0 := blk_frozen BK102.out 0; have hfz9_1 := blk_frozen BK102.out 1) | ((with_reducible refine gate_calleeT (t := 15) rfl ?_); refine goesT_ (some 17) rfl rfl Tryz.func144 (by kernel_rfl) rfl #[.agg #[.int .i64 ((rd_T156 l0 x10_1).f0), .slice A101_1 ((rd_T156 l0 x10_1).f1).length c101_1]] rfl rfl (by (try simp only [List.map_toArray, List.map_cons, List.map_nil]); first | done | rfl | (simp only [List.length_drop, List.length_take]; rfl)) ?_; (with_reducible refine (market_weight_1.calls ((rd_T156 l0 x10_1).f0) _ _ ((rd_T156 l0 x10_1).f1) t103 _ ?side1 ?side2 A6.out).mono ?_); (case side1 => exact Kd.C_below HR101_1.out (wg_ HB.out GE102.out)); (case side2 => exact HC101_1.out); rintro e w10 ⟨rfl, hb⟩; refine ⟨_, rfl, ?_⟩; have n0_ := Aside0.mk (Kd.R_below (by (with_reducible repeat (first | apply Kd.R_alloc | apply Kd.R_drewN | apply Kd.R_drew)); exact (Kd.R_mono (Kd.R_far (p := ⟨gb102, 1, none⟩) (Kd.R_far (p := ⟨gb102, 0, none⟩) (Kd.R_types HO_5.out BK102.out (by decide)) (fun _ hk => hk.2) (.int .i64 ((rd_T156 l0 x10_1).f0))) (fun _ hk => hk.2) (.slice A101_1 ((rd_T156 l0 x10_1).f1).length c101_1)) (fun _ h_ => h_.1))) hb); have n1_ := Aside0.mk (blk_below (g := gb102) (o := .cells #[.int .i64 ((rd_T156 l0 x10_1).f0), .slice A101_1 ((rd_T156 l0 x10_1).f1).length c101_1] 156 (0, 0)) (by (with_reducible repeat (first | refine blk_drewN ?_ _ | refine blk_drew ?_ | refine blk_alloc ?_ _)); refine blk_put (cs := #[.int .i64 ((rd_T156 l0 x10_1).f0), .slice none 0 0]) ?_ 1 _ rfl; (with_reducible repeat (first | refine blk_drewN ?_ _ | refine blk_drew ?_ | refine blk_alloc ?_ _)); refine blk_put (cs := #[.int .i64 0, .slice none 0 0]) ?_ 0 _ rfl; (with_reducible repeat (first | refine blk_drewN ?_ _ | refine blk_drew ?_ | refine blk_alloc ?_ _)); exact BK102.out) hb); have n2_ := Aside0.mk (below_step (wg_ HB.out GE102.out) hb); clear HO_5; clear BK102; clear HB; have HO_5 := n0_; have BK102 := n1_; have HB := n2_; clear n0_ n1_ n2_; (try clear hb); (try clear hb2); (try clear hk); (try clear hi)) | ((with_reducible refine gate_builtin (b := .append) (xs := #[.tmp 14, .tmp 18]) rfl ?_); at_builtin; refine Kd.R_append (Kd.int .i64) (w0 := w) w.heap.size rfl (.tmp 14) (.tmp 18) 52 3 (.int .i64 0) 8 rfl Tryz.underlying52 info3 rfl (by decide) (by omega) u5 x5_1 t103 [.int .i64 t103] (fun _ => True) (fun _ => False) rfl rfl ?aP (fun _ hk => hk.elim) ?aF ?aO ?aB ?aS ?aL ?_; (case aP => exact rfl); (case aB => exact (wg_ HB.out GE102.out)); (case aF => exact (fun _ _ => trivial)); (case aO => exact (rs_ HO_5.out)); (case aS => exact (below_size (wg_ HB.out GE102.out))); (case aL => have := LMc7.out; omega); intro v105 w11 ho hb hg hat; rw [← Ny104.out] at ho; have n0_ := Aside0.mk (blk_grown (g := gb102) (o := .cells #[.int .i64 ((rd_T156 l0 x10_1).f0), .slice A101_1 ((rd_T156 l0 x10_1).f1).length c101_1] 156 (0, 0)) (bs_ BK102.out) hg (Kd.R_ne HO_5.out BK102.out (by decide))); have n1_ := Aside0.mk (hb); have n2_ := Aside0.mk (ho); clear BK102; clear HB; clear HO_5; have BK102 := n0_; have HB := n1_; have HO106 := n2_; clear n0_ n1_ n2_; clear ho hb hg hat))
       go_roundg k1
       case measure => have := HK1.out; omega
       case rel => exact ⟨(y104), (wrap64 (x10_1 + 1)), (by first | rfl | (simp; done) | (simp [*]; done)), H', ⟨by have := HK1.out; omega⟩, ⟨by (with_reducible repeat (first | apply Kd.R_alloc | apply Kd.R_drewN | apply Kd.R_drew)); exact HO106.out⟩, ⟨by repeat (first | (with_reducible first | exact HB.out | apply below_alloc | apply pw_below_drewN | apply below_drew1 | refine below_set ?_ GE102.out) | exact HB.out)⟩⟩
      ·rw [if_neg c7] at H
       exact absurd H (by simp)
     ·rw [if_neg c5] at H
      exact absurd H (by simp)
    ·rw [if_neg c4] at H
     exact absurd H (by simp)
   ·rw [if_neg c3] at H
    have c3b0 : decide (x10_1 < (l0.length : Int)) = false := decide_eq_false c3
    clear c3
    obtain rfl := Option.some.inj H
    go_wp2
    go_ret
    exact ⟨_, by first | rfl | (simp [errW_none, errW_some] <;> rfl) | (simp [*, errW_none, errW_some] <;> rfl), by (with_reducible repeat (first | apply Kd.R_alloc | apply Kd.R_drewN | apply Kd.R_drew)); exact HO_5.out, by repeat (first | (with_reducible first | exact HB.out | apply below_alloc | apply pw_below_drewN | apply below_drew1) | exact HB.out)⟩
/-! ### market_weight: function 97 -/
def market_weight.f (k : Nat) (l0 : List (S156)) : Option (Int) := (market_Scenario_int__market_weight_1.f k l0 ()).bind fun t101 => ((market_sum.f k t101).bind fun t104 => (some t104))
set_option maxHeartbeats 8000000 in
set_option maxRecDepth 100000 in
theorem market_weight.calls (k : Nat) (A0 : Option Addr) (c0 : Nat) (l0 : List (S156)) (r : Int) (w : World) (hr0 : Kd.C k156 w A0 l0.length l0) (hc0 : l0.length ≤ c0) (h : market_weight.f k l0 = some r) :
  Calls Tryz.prog 97 #[.slice A0 l0.length c0] w fun e w' => e = .returned (.int .i64 r) ∧ Below w.heap.size w w' := by
 have HR0 := Aside0.mk hr0
 have HC0 := Aside0.mk hc0
 clear hr0 hc0
 have HB := Aside0.mk (Below.refl w.heap.size w)
 have H : ((market_Scenario_int__market_weight_1.f k l0 ()).bind fun t101 => ((market_sum.f k t101).bind fun t104 => (some t104))) = some r := h
 clear h
 replace H := Option.bind_eq_some_iff.mp H
 obtain ⟨t101, A20, H⟩ := H
 replace H : ((market_sum.f k t101).bind fun t104 => (some t104)) = some r := H
 have A2 := Aside0.mk A20
 clear A20
 replace H := Option.bind_eq_some_iff.mp H
 obtain ⟨t104, A30, H⟩ := H
 replace H : (some t104) = some r := H
 have A3 := Aside0.mk A30
 clear A30
 obtain rfl := Option.some.inj H
 go_enter Tryz.func97, Tryz.ntmps97
 go_wp2_with (first | ((with_reducible refine gate_callee (f := 118) rfl ?_); refine gl_ (some 4) Tryz.func118 #[.slice A0 l0.length c0, .func (.func 144) #[] #[]] ?_; (with_reducible refine (market_Scenario_int__market_weight_1.calls k _ _ l0 () t101 _ ?side1 ?side2 A2.out).mono ?_); (case side1 => exact cs_ HR0.out); (case side2 => exact HC0.out); rintro e w4 ⟨v102, rfl, ho0, hb⟩; refine ⟨_, rfl, ?_⟩; have n0_ := Aside0.mk (Kd.R_lower ho0 (below_size (ws_ HB.out))); have n1_ := Aside0.mk (below_step (ws_ HB.out) hb); clear HB; have HO103 := n0_; have HB := n1_; clear n0_ n1_; (try clear hb); (try clear hb2); (try clear hk); (try clear hi); (try clear ho0); obtain ⟨Ao5, co5, eo5⟩ := Kd.R_slice HO103.out; subst eo5) | ((with_reducible refine gate_callee (f := 104) rfl ?_); refine gl_ (some 5) Tryz.func104 #[.slice Ao5 t101.length co5] ?_; (with_reducible refine (market_sum.calls k _ _ t101 t104 _ ?side1 ?side2 A3.out).mono ?_); (case side1 => repeat (first | exact (Kd.R_reads' HO103.out).2.2 | (with_reducible refine Kd.C_alloc ?_ _) | (with_reducible refine Kd.C_drewN ?_ _) | (with_reducible refine Kd.C_drew ?_))); (case side2 => exact (Kd.R_reads' HO103.out).2.1); rintro e w' ⟨rfl, ⟨nd, rfl⟩⟩; refine ⟨_, rfl, ?_⟩))
 go_ret
 exact ⟨by first | rfl | (simp [errW_none, errW_some] <;> rfl) | (simp [*, errW_none, errW_some] <;> rfl), by repeat (first | (with_reducible first | exact HB.out | apply below_alloc | apply pw_below_drewN | apply below_drew1) | exact HB.out)⟩
end Go.Proofs.YtfdlhbdcejlopaaGreatDoor.B
namespace Go.Proofs.YtfdlhbdcejlopaaGreatDoor.B
open Go.RowKit Go.Proofs.YtfdlhbdcejlopaaGreatDoorW.PrintWords Go.Proofs.YtfdlhbdcejlopaaGreatDoorW.PrintLast Go.Proofs.YtfdlhbdcejlopaaGreatDoorW.PrintMore
variable {P : Program} {ops : Array Oper} {Q : Exit → Act → World → Prop} {S : World → Prop} {ds : List Nat}
def noDefer (ops : Array Oper) : Bool := ops.toList.all fun o => match o.op with | .defer _ => false | _ => true
theorem noDefer_at {i : Nat} {o : Oper} (h : noDefer ops = true) (hi : ops[i]? = some o) : ∀ c, o.op ≠ .defer c := by
 intro c hc
 unfold noDefer at h
 rw [List.all_eq_true] at h
 have hm : o ∈ ops.toList := by
  rw [Array.mem_toList_iff]
  exact Array.mem_of_getElem? hi
 have := h o hm
 rw [hc] at this
 exact absurd this (by simp)
theorem oper_round {l n : Nat} {o : Oper} {a : Act} {w : World} {K : Act → World → Prop} (hnd : ∀ c, o.op ≠ .defer c) (h : o.wp P a w K Q) : o.wpIn (Fence.wide.inRound l) n P a w K Q := by
 refine ⟨fun _ _ => trivial, ?_⟩
 unfold Oper.wp at h
 rw [Fence.inRound_round, Oper.semAt_some l a.eval o hnd]
 generalize (execOp a.eval o).run P w = r at *
 cases r with
 | halt x w' =>
  cases x <;> first | exact h | exact h.elim
 | ok x w' =>
  cases x with
  | value v => exact h
  | skip => exact h
  | defer d => exact h
  | enter f args => exact ⟨fun hd => by simp [Fence.wide] at hd, CallsIn.inRound l (callsIn_wide.2 h)⟩
  | row row args =>
   refine ⟨fun hd => by simp [Fence.wide] at hd, fun c cs _ => ?_⟩
   obtain ⟨v, w'', hr, hs⟩ := h c cs
   exact ⟨v, w'', hr, stepsIn_wide.2 hs⟩
  | _ => exact h.elim
theorem any_round {l n : Nat} (hno : ¬ LetsOut Q) (hnd : noDefer ops = true) {md : Region.Mode} : ∀ (fuel : Nat) (listed : Array Bool) (a : Act) (w : World), wpAny P md ops Q fuel listed a w → wpAnyIn (Fence.wide.inRound l) n P md ops Q fuel listed a w
 | 0, _, _, _, h => h
 | fuel + 1, listed, a, w, h => by
  refine ⟨h.1, fun i hi => ?_⟩
  have h2 := h.2 i hi
  unfold wpOp at h2
  unfold wpOpIn
  cases ho : ops[i]? with
  | none =>
   simp only [ho] at h2
   exact any_round hno hnd fuel _ _ _ h2
  | some o =>
   simp only [ho] at h2
   by_cases hw : Region.wanted o (yielded ops a.tmps) = true
   ·simp only [hw, if_true] at h2 ⊢
    rcases h2 with h2 | h2
    ·exact Oper.wpIn_mono (fun a w h => any_round hno hnd fuel _ a w h) (oper_round (noDefer_at hnd ho) h2)
    ·exact absurd h2.2 hno
   ·simp only [hw] at h2 ⊢
    exact ⟨fun _ _ => trivial, any_round hno hnd fuel _ _ _ h2⟩
theorem startR_ {l : Nat} {id m n : Nat} {a : Act} {w : World} (lst : Array Bool) (hno : ¬ LetsOut Q) (hnd : noDefer ops = true) (hm : P.follows .mixedOrders = true) (hn : ops.size = n) (hl : Array.replicate n false = lst) (hS : S w.drew)
  (h : S w.drew → wpAnyLast P .any ops Q S ds n lst a w.drew) : (Code.region id ops true).wpIn (Fence.wide.inRound l) m P Q a w := by
 subst hn
 subst hl
 exact wpIn_region_any hm (any_round hno hnd _ _ _ _ (wpAny_of_last _ _ _ _ (h hS)))
end Go.Proofs.YtfdlhbdcejlopaaGreatDoor.B
namespace Go.Proofs.YtfdlhbdcejlopaaGreatDoor.B
open Go.RowKit Go.Shelf Go.Proofs.YtfdlhbdcejlopaaGreatDoorW.PrintWords Go.Proofs.YtfdlhbdcejlopaaGreatDoorW.PrintLast Go.Proofs.YtfdlhbdcejlopaaGreatDoorW.PrintMore
set_option linter.unusedVariables false
set_option linter.unusedSimpArgs false
attribute [local go_sem] Oper.semAt_some
def outs (q : Int) (l : List S156) : List (Int × Int) := l.map fun s => (rd s.f1 q, s.f0)
abbrev outEnc (x : Int × Int) : Array Value := #[.int .i64 x.1, .int .i64 x.2]
def KpOut (n b : Nat) (W W' : World) : Prop := Below n W W' ∧ W'.heap[b]? = W.heap[b]?
theorem KpOut.trans {n b : Nat} {A B C : World} (h : KpOut n b A B) (k : KpOut n b B C) : KpOut n b A C := ⟨h.1.trans k.1, k.2.trans h.2⟩
theorem KpOut.put {n b m : Nat} (hn : n ≤ m) (hb : b < m) (W : World) (l : Nat) (o o' : Obj) (hl : m ≤ l) (h : W.heap[l]? = some o) (h1 : o.isCells = false) (h2 : o.isWalk = false) : KpOut n b W (W.putObj l o') :=
 ⟨(Below.refl n W).grown (grownBy_putObj' W l o') (by have := (Array.getElem?_eq_some_iff.1 h).1; omega) (fun k e => by cases e; omega), World.putObj_heap_other (by omega)⟩
theorem KpOut.cell {n b : Nat} {W W' : World} (h : KpOut n b W W') {v : Value} (hc : W.cell? ⟨b, 0, none⟩ = some v) : W'.cell? ⟨b, 0, none⟩ = some v := (World.cell?_of_block (a := ⟨b, 0, none⟩) h.2).trans hc
theorem outs_step (q : Int) (l0 : List S156) (k : Int) (h0 : 0 ≤ k) (h1 : k < l0.length) (s : S156) (hs : rd_T156 l0 k = s) : (outs q l0).take k.toNat ++ [(rd s.f1 q, s.f0)] = (outs q l0).take (k + 1).toNat := by
 have e : (k + 1).toNat = k.toNat + 1 := by omega
 rw [e, List.take_succ_eq_append_getElem (by simp [outs]; omega)]
 congr 1
 simp only [outs, List.getElem_map, List.cons.injEq, and_true]
 rw [← hs, rd_T156, List.getD_eq_getElem?_getD, List.getElem?_eq_getElem (by omega)]
 rfl
theorem outs_all (q : Int) (l0 : List S156) (k : Int) (h1 : l0.length ≤ k) : (outs q l0).take k.toNat = outs q l0 := List.take_of_length_le (by simp [outs]; omega)
theorem grownBy_alloc_drew (W : World) (o : Obj) : W.grownBy (W.alloc o).drew none := by
 have h := World.grownBy_alloc W o none
 exact ⟨h.os, h.tape, h.output, h.size, h.block⟩
theorem abides_alloc_drew {β : Type} {B : Nat} {J : β → World → Prop} (h : AbidesFrom B J) {s : β} {W : World} (hs : J s W) (o : Obj) : J s (W.alloc o).drew :=
 h s W _ none hs (grownBy_alloc_drew W o) (fun r e => by cases e)
set_option maxRecDepth 100000 in
set_option maxHeartbeats 2000000 in
theorem out_stops (n : Nat) (hn : 1 ≤ n) (w0 w : World) (hw : Below w0.heap.size w0 w) (Bl Bq : Nat) (A : Option Addr) (c : Nat) (l0 : List S156) (q : Int)
  (hBl : w.cell? ⟨Bl, 0, none⟩ = some (.slice A l0.length c)) (hBq : w.cell? ⟨Bq, 0, none⟩ = some (.int .i64 q)) (hr : Kd.C k156 w0 A l0.length l0) (hc0 : l0.length ≤ c) (hq : 0 ≤ q) (hall : ∀ s ∈ l0, q < s.f1.length) :
  SeqStopsK Fence.wide n Tryz.prog 151 #[.pointer (some ⟨Bl, 0, none⟩), .pointer (some ⟨Bq, 0, none⟩)] outEnc (KpOut w0.heap.size Bq) (fun xs => xs = outs q l0) (fun _ => True) l0.length w := fun l J Jx W hW hJ hJx hY h0 => by
 refine callsIn_of_wp Tryz.func151 rfl trivial ?_ rfl
 simp only [Tryz.ntmps151, List.size_toArray, List.length_cons, List.length_nil, Nat.reduceAdd, Nat.reduceSub, Array.replicate_succ, Array.replicate_zero, List.push_toArray, List.append_toArray, List.nil_append, List.cons_append]
 have hcl := pw_cell_below hW hBl
 have hcq := pw_cell_below hW hBq
 have hlen : (outs q l0).length = l0.length := by simp [outs]
 gi_wp2
 gi_loopw [8] (fun i wr => ∃ k : Int, 0 ≤ k ∧ k ≤ l0.length ∧ i = .int .i64 k ∧ Aside0 (Below w0.heap.size w0 wr) ∧ Aside0 (wr.cell? ⟨Bq, 0, none⟩ = some (.int .i64 q)) ∧ Aside0 (J ((outs q l0).take k.toNat) wr)) (fun i _ => l0.length - (intOf i).toNat)
 case atStart => exact ⟨0, by omega, by omega, rfl, ⟨hw.trans (hW.mono hw.size)⟩, ⟨hcq⟩, ⟨by simpa using h0⟩⟩
 case round =>
  obtain ⟨k, hk0, hk, rfl, HB, HQ, HJ⟩ := hrel
  by_cases hlt : k < l0.length
  ·obtain ⟨ad, A1, c1, e, hx0, hx1, hl1, hi1⟩ := at_T156 (Kd.C_below hr HB.out) k hk0 hlt
   cases e
   obtain ⟨s, hs⟩ : ∃ s, rd_T156 l0 k = s := ⟨_, rfl⟩
   have hsl : s ∈ l0 := by
    rw [← hs, rd_T156, List.getD_eq_getElem?_getD, List.getElem?_eq_getElem (by omega)]
    exact List.getElem_mem _
   have hqs := hall s hsl
   rw [hs] at hx0 hx1 hl1 hi1
   obtain ⟨ad1, e1, hcell⟩ := Kd.at_int hi1 q hq hqs
   cases e1
   have hu156 := Tryz.underlying156
   have hcqr := HQ.out
   have b0 : decide (k < (l0.length : Int)) = true := decide_eq_true hlt
   have p0 := eq_true hk0
   have q0 := eq_true hlt
   have p1 := eq_true hq
   have q1 := eq_true hqs
   gi_wp2
   have hJ1 := abides_alloc_drew hJ HJ.out (.cells #[.int .i64 s.f0, .slice (some ad1) s.f1.length c1] 156)
   have hy0 := hY _ (rd s.f1 q, s.f0) _ hJ1 (by rw [List.length_take]; omega)
   obtain ⟨fn, tmps, assign, body, hy, hR⟩ := hy0
   have hR' : RoundIn Fence.wide (n - 1) Tryz.prog l fn tmps assign body _ (fun e W' => ∃ b : Bool, e = .returned (.bool b) ∧ Aside0 ((b = true → J (((outs q l0).take k.toNat) ++ [(rd s.f1 q, s.f0)]) W' ∧ KpOut w0.heap.size Bq (wr.alloc (.cells #[.int .i64 s.f0, .slice (some ad1) s.f1.length c1] 156)).drew W') ∧ (b = false → Jx (((outs q l0).take k.toNat) ++ [(rd s.f1 q, s.f0)]) W'))) := hR.mono (by
    rintro e W' (⟨rfl, h1, h2⟩ | ⟨rfl, h1⟩)
    ·exact ⟨true, rfl, ⟨fun _ => ⟨h1, h2⟩, (fun h => by cases h)⟩⟩
    ·exact ⟨false, rfl, ⟨(fun h => by cases h), fun _ => h1⟩⟩)
   clear hR
   dsimp only [outEnc] at hy
   have hd1 : (wr.alloc (.cells #[.int .i64 s.f0, .slice (some ad1) s.f1.length c1] 156)).drew.cell? ⟨Bq, 0, none⟩ = some (.int .i64 q) := pw_cell_below (below_alloc (Below.refl _ _) _) hcqr
   have hd2 : (wr.alloc (.cells #[.int .i64 s.f0, .slice (some ad1) s.f1.length c1] 156)).drew.cell? (ad1.add q.toNat) = some (.int .i64 (rd s.f1 q)) := pw_cell_below (below_alloc (Below.refl _ _) _) hcell
   gi_region_with (refine hR'.mono ?_; rintro e W1 ⟨b, rfl, hb⟩)
   all_goals
    cases b
    ·gi_wp2
     refine bodyPost_ret (results_none rfl _ _ _) rfl ?_
     exact ⟨⟨_, rfl⟩, .inr ⟨_, hb.out.2 (by simp)⟩⟩
    ·gi_wp2
     have hwk : wrap64 (k + 1) = k + 1 := by have := hr.2.1; unfold wrap64; omega
     refine ⟨⟨k + 1, by omega, by omega, by rw [hwk], ⟨?_⟩, ⟨?_⟩, ⟨?_⟩⟩, by rw [hwk]; simp [intOf]; omega⟩
     ·exact (below_drew (below_alloc HB.out _)).trans (hb.out.1 (by simp)).2.1
     ·exact (hb.out.1 (by simp)).2.cell hd1
     ·rw [← outs_step q l0 k hk0 hlt s hs]
      exact (hb.out.1 (by simp)).1
  ·have b0 : decide (k < (l0.length : Int)) = false := decide_eq_false hlt
   gi_wp2
   go_end0
   refine ⟨⟨_, rfl⟩, .inl ?_⟩
   have := HJ.out
   rw [outs_all q l0 k (by omega)] at this
   exact this
set_option maxHeartbeats 400000 in
/-- market.outcomes hands the iterator back, over two new boxes. -/
theorem out_calls (A : Option Addr) (n c : Nat) (q : Int) (w : World) : Calls Tryz.prog 117 #[.slice A n c, .int .i64 q] w fun e w' =>
  e = .returned (.func (.func 151) #[] #[.pointer (some ⟨w.heap.size, 0, none⟩), .pointer (some ⟨w.heap.size + 1, 0, none⟩)]) ∧ (w.alloc (.cells #[.slice A n c] 37)).alloc (.cells #[.int .i64 q] 3) = w' := by
 have hmf : ∀ (fn : Fn) (first cap : Array Value) (w : World), (Instr.makeFunc fn first cap).run Tryz.prog w = .ok (.func fn first cap) w := fun _ _ _ _ => rfl
 go_enter Tryz.func117, Tryz.ntmps117
 go_wp2
 go_ret
 exact ⟨rfl, rfl⟩
end Go.Proofs.YtfdlhbdcejlopaaGreatDoor.B
namespace Go.Proofs.YtfdlhbdcejlopaaGreatDoor.B
open Go.RowKit Go.Shelf Go.Proofs.YtfdlhbdcejlopaaGreatDoorW.PrintWords Go.Proofs.YtfdlhbdcejlopaaGreatDoorW.PrintLast Go.Proofs.YtfdlhbdcejlopaaGreatDoorW.PrintMore
attribute [local go_sem] max2_int min2_int max_two min_two
set_option linter.unusedVariables false
set_option linter.unusedSimpArgs false
attribute [local go_sem] Oper.semAt_some
def settledV (p0 p1 p2 o d : Int) : Int := wrap64 ((wrap64 ((wrap64 (p1 * o)) + (wrap64 (p0 * (mx d 0))))) - (wrap64 (p2 * (mx (wrap64 (-d)) 0))))
theorem settledV_f (p0 p1 p2 o d : Int) : market_Prices_settled.f p0 p1 p2 o d = some (settledV p0 p1 p2 o d) := by
 unfold market_Prices_settled.f settledV
 rfl
def expStep (p0 p1 p2 o : Int) (n : Int) (x : Int × Int) : Int := wrap64 (n + wrap64 (x.2 * settledV p0 p1 p2 o (wrap64 (x.1 - o))))
def expV (q p0 p1 p2 o : Int) (l : List S156) : Int := (outs q l).foldl (expStep p0 p1 p2 o) 0
def market_expected.f (l0 : List S156) (a1 a2_0 a2_1 a2_2 a3 : Int) : Option Int :=
 if 0 ≤ a1 ∧ (l0.all fun s => decide (a1 < s.f1.length)) = true then some (expV a1 a2_0 a2_1 a2_2 a3 l0) else none
theorem exp_boxes (w : World) (p0 p1 p2 o q : Int) (v : Value) : let W0 := (((((w.alloc (.cells #[.int .i64 p0, .int .i64 p1, .int .i64 p2] 31)).alloc (.cells #[.int .i64 o] 3)).alloc (.cells #[.int .i64 0] 3)).alloc (.cells #[v] 37)).alloc (.cells #[.int .i64 q] 3))
  W0.cell? ⟨w.heap.size, 0, none⟩ = some (.int .i64 p0) ∧ W0.cell? ⟨w.heap.size, 1, none⟩ = some (.int .i64 p1) ∧ W0.cell? ⟨w.heap.size, 2, none⟩ = some (.int .i64 p2) ∧ W0.cell? ⟨w.heap.size + 1, 0, none⟩ = some (.int .i64 o) ∧ W0.cell? ⟨w.heap.size + 1 + 1, 0, none⟩ = some (.int .i64 0) ∧ W0.frozen? ⟨w.heap.size + 1 + 1, 0, none⟩ = false
  ∧ W0.cell? ⟨w.heap.size + 1 + 1 + 1, 0, none⟩ = some v ∧ W0.cell? ⟨w.heap.size + 1 + 1 + 1 + 1, 0, none⟩ = some (.int .i64 q) ∧ w.heap.size + 1 + 1 + 1 + 1 < W0.heap.size := by
 refine ⟨?_, ?_, ?_, ?_, ?_, ?_, ?_, ?_, ?_⟩
 ·go_simp
 ·go_simp
 ·go_simp
 ·go_simp
 ·go_simp
 ·go_simp
 ·go_simp
 ·go_simp
 ·simp
set_option maxRecDepth 100000 in
set_option maxHeartbeats 2000000 in
theorem market_expected.calls (A0 : Option Addr) (c0 : Nat) (l0 : List S156) (a1 a2_0 a2_1 a2_2 a3 r : Int) (w : World) (hr0 : Kd.C k156 w A0 l0.length l0) (hc0 : l0.length ≤ c0) (h : market_expected.f l0 a1 a2_0 a2_1 a2_2 a3 = some r) :
  Calls Tryz.prog 96 #[.slice A0 l0.length c0, .int .i64 a1, .agg #[.int .i64 a2_0, .int .i64 a2_1, .int .i64 a2_2], .int .i64 a3] w fun e w' => e = .returned (.int .i64 r) ∧ Below w.heap.size w w' := by
 unfold market_expected.f at h
 split at h
 case isFalse => cases h
 rename_i hc
 obtain ⟨hq, hall0⟩ := hc
 have hall : ∀ s ∈ l0, a1 < s.f1.length := fun s hs => by
  have := List.all_eq_true.1 hall0 s hs
  simpa using this
 have hR := Option.some.inj h
 clear h hall0
 have HR := Aside0.mk hR
 clear hR
 refine (callsIn_wide (n := 6)).1 ?_
 refine callsIn_of_wp_marks Tryz.func96 rfl trivial ?_ rfl
 simp only [Tryz.ntmps96, List.size_toArray, List.length_cons, List.length_nil, Nat.reduceAdd, Nat.reduceSub, Array.replicate_succ, Array.replicate_zero, List.push_toArray, List.append_toArray, List.nil_append, List.cons_append]
 gi_wp2
 refine ⟨trivial, (callsIn_wide.2 (out_calls A0 l0.length c0 a1 _)).mono ?_⟩
 rintro e w1 ⟨rfl, rfl⟩
 gi_wp2
 have hb5 : Below w.heap.size w (((((w.alloc (.cells #[.int .i64 a2_0, .int .i64 a2_1, .int .i64 a2_2] 31)).alloc (.cells #[.int .i64 a3] 3)).alloc (.cells #[.int .i64 0] 3)).alloc (.cells #[.slice A0 l0.length c0] 37)).alloc (.cells #[.int .i64 a1] 3)) :=
  below_alloc (below_alloc (below_alloc (below_alloc (below_alloc (Below.refl _ _) _) _) _) _) _
 have hx := exp_boxes w a2_0 a2_1 a2_2 a3 a1 (.slice A0 l0.length c0)
 obtain ⟨W0, hW0⟩ : ∃ W0 : World, (((((w.alloc (.cells #[.int .i64 a2_0, .int .i64 a2_1, .int .i64 a2_2] 31)).alloc (.cells #[.int .i64 a3] 3)).alloc (.cells #[.int .i64 0] 3)).alloc (.cells #[.slice A0 l0.length c0] 37)).alloc (.cells #[.int .i64 a1] 3)) = W0 := ⟨_, rfl⟩
 rw [hW0] at hx hb5 ⊢
 clear hW0
 obtain ⟨g0, g1, g2, g3, g4, g5, g6, g7, g8⟩ := hx
 refine wpIn_rangeFunc_ownF rfl (by omega) (gf := 151) (lb := #[.pointer (some ⟨w.heap.size + 1 + 1 + 1, 0, none⟩), .pointer (some ⟨w.heap.size + 1 + 1 + 1 + 1, 0, none⟩)]) rfl trivial (enters_of Tryz.func151 (by kernel_rfl) rfl)
  (out_stops 5 (by omega) w W0 hb5 (w.heap.size + 1 + 1 + 1) (w.heap.size + 1 + 1 + 1 + 1) A0 c0 l0 a1 g6 g7 hr0 hc0 hq hall)
  KpOut.trans (KpOut.put hb5.size g8) (Below.refl _ _) (fun _ => rfl)
  (fun pre W => (W.cell? ⟨w.heap.size, 0, none⟩ = some (.int .i64 a2_0) ∧ W.cell? ⟨w.heap.size, 1, none⟩ = some (.int .i64 a2_1) ∧ W.cell? ⟨w.heap.size, 2, none⟩ = some (.int .i64 a2_2) ∧ W.cell? ⟨w.heap.size + 1, 0, none⟩ = some (.int .i64 a3) ∧ W.cell? ⟨w.heap.size + 1 + 1, 0, none⟩ = some (.int .i64 (pre.foldl (expStep a2_0 a2_1 a2_2 a3) 0)) ∧ W.frozen? ⟨w.heap.size + 1 + 1, 0, none⟩ = false ∧ W.cell? ⟨w.heap.size + 1 + 1 + 1 + 1, 0, none⟩ = some (.int .i64 a1)) ∧ Below w.heap.size w W)
  (fun _ _ _ => False)
  (OwnFrom.and (Own.from (fun s A B row hs hg hr => ⟨Go.cell_kept hs.1 hg hr, Go.cell_kept hs.2.1 hg hr, Go.cell_kept hs.2.2.1 hg hr, Go.cell_kept hs.2.2.2.1 hg hr, Go.cell_kept hs.2.2.2.2.1 hg hr, (Go.frozen_kept hs.2.2.2.2.1 hg hr).trans hs.2.2.2.2.2.1, Go.cell_kept hs.2.2.2.2.2.2 hg hr⟩) _) (ownFrom_below (Nat.le_refl _) hb5.size))
  (fun _ => Own.from (fun _ _ _ _ hs _ _ => hs) _)
  ⟨⟨g0, g1, g2, g3, g4, g5, g7⟩, hb5⟩
  (fun x => { tmps := #[.slice A0 l0.length c0, .int .i64 a1, .agg #[.int .i64 a2_0, .int .i64 a2_1, .int .i64 a2_2], .int .i64 a3, undef, undef, .pointer (some ⟨w.heap.size, 0, none⟩), .pointer (some ⟨w.heap.size + 1, 0, none⟩), .int .i64 0, .pointer (some ⟨w.heap.size + 1 + 1, 0, none⟩), .int .i64 x.1, .int .i64 x.2, .slice A0 l0.length c0, .int .i64 a1, .func (.func 151) #[] #[.pointer (some ⟨w.heap.size + 1 + 1 + 1, 0, none⟩), .pointer (some ⟨w.heap.size + 1 + 1 + 1 + 1, 0, none⟩)], .int .i64 x.1, .int .i64 x.2, undef, undef, undef, undef, undef, undef, undef, undef, undef, undef, undef], defers := [] }) ?assign ?body ?done ?stop
 case assign =>
  intro l x W K hK
  gi_wp2
  exact hK
 case body =>
  rintro l pre x W ⟨⟨hP0, hP1, hP2, hO, hN, hf, hQ⟩, hbW⟩ _
  refine wpIn_block ?_
  refine startR_ (n := 11) (S := fun w' => w'.cell? ⟨w.heap.size, 0, none⟩ = some (.int .i64 a2_0) ∧ w'.cell? ⟨w.heap.size, 1, none⟩ = some (.int .i64 a2_1) ∧ w'.cell? ⟨w.heap.size, 2, none⟩ = some (.int .i64 a2_2) ∧ w'.cell? ⟨w.heap.size + 1, 0, none⟩ = some (.int .i64 a3) ∧ w'.cell? ⟨w.heap.size + 1 + 1, 0, none⟩ = some (.int .i64 (pre.foldl (expStep a2_0 a2_1 a2_2 a3) 0))) (ds := [10]) #[false, false, false, false, false, false, false, false, false, false, false] (by rintro ⟨a, w, h⟩; exact h) (by kernel_rfl) (by kernel_rfl) rfl rfl ⟨hP0, hP1, hP2, hO, hN⟩ (fun hHeld => ?_)
  have hN1 : W.drew.cell? ⟨w.heap.size + 1 + 1, 0, none⟩ = some (.int .i64 (pre.foldl (expStep a2_0 a2_1 a2_2 a3) 0)) := hN
  have hf1 : W.drew.frozen? ⟨w.heap.size + 1 + 1, 0, none⟩ = false := hf
  have hk1 : KeepsOthers W W.drew := KeepsOthers.drew W
  have hkp1 : KpOut w.heap.size (w.heap.size + 1 + 1 + 1 + 1) W W.drew := ⟨below_drew1 (Below.refl _ _), rfl⟩
  have hbW1 : Below w.heap.size w W.drew := below_drew1 hbW
  have hQ1 : W.drew.cell? ⟨w.heap.size + 1 + 1 + 1 + 1, 0, none⟩ = some (.int .i64 a1) := hQ
  clear hP0 hP1 hP2 hO hN hf hQ hbW
  generalize W.drew = W1 at *
  refine pure_ (i := 1) (N := some 18) (v := ?_) (a' := ?_) #[false, true, false, false, false, false, false, false, false, false, false] rfl rfl (by kernel_rfl) (fun _ _ _ h => h) (Or.inl ⟨by rfl, ?_⟩) ?_ ?_
  rotate_left
  ·intro w'
   go_simp
   first | done | with_reducible rfl
  rotate_left
  ·simp only [Act.put, List.setIfInBounds_toArray, List.set_cons_zero, List.set_cons_succ, i64_w, i32_w]
   rfl
  refine pure_ (i := 4) (N := some 21) (v := ?_) (a' := ?_) #[false, true, false, false, true, false, false, false, false, false, false] rfl rfl (by kernel_rfl) (fun _ _ _ h => h) (Or.inl ⟨by rfl, ?_⟩) ?_ ?_
  rotate_left
  ·intro w'
   go_simp
   first | done | with_reducible rfl
  rotate_left
  ·simp only [Act.put, List.setIfInBounds_toArray, List.set_cons_zero, List.set_cons_succ, i64_w, i32_w]
   rfl
  refine take_ (i := 0) (N := some 17) (v := ?_) (a' := ?_) #[true, true, false, false, true, false, false, false, false, false, false] rfl rfl (by kernel_rfl) (fun _ _ _ h => h) (Or.inl ⟨by rfl, ?_⟩) hHeld ?_ ?_
  rotate_left
  ·rintro w' ⟨s0, s1, s2, s3, s4⟩
   go_simp
   first | done | with_reducible rfl
  rotate_left
  ·simp only [Act.put, List.setIfInBounds_toArray, List.set_cons_zero, List.set_cons_succ, i64_w, i32_w]
   rfl
  refine take_ (i := 2) (N := some 19) (v := ?_) (a' := ?_) #[true, true, true, false, true, false, false, false, false, false, false] rfl rfl (by kernel_rfl) (fun _ _ _ h => h) (Or.inl ⟨by rfl, ?_⟩) hHeld ?_ ?_
  rotate_left
  ·rintro w' ⟨s0, s1, s2, s3, s4⟩
   go_simp
   first | done | with_reducible rfl
  rotate_left
  ·simp only [Act.put, List.setIfInBounds_toArray, List.set_cons_zero, List.set_cons_succ, i64_w, i32_w]
   rfl
  refine take_ (i := 3) (N := some 20) (v := ?_) (a' := ?_) #[true, true, true, true, true, false, false, false, false, false, false] rfl rfl (by kernel_rfl) (fun _ _ _ h => h) (Or.inl ⟨by rfl, ?_⟩) hHeld ?_ ?_
  rotate_left
  ·rintro w' ⟨s0, s1, s2, s3, s4⟩
   go_simp
   first | done | with_reducible rfl
  rotate_left
  ·simp only [Act.put, List.setIfInBounds_toArray, List.set_cons_zero, List.set_cons_succ, i64_w, i32_w]
   rfl
  refine take_ (i := 5) (N := some 22) (v := ?_) (a' := ?_) #[true, true, true, true, true, true, false, false, false, false, false] rfl rfl (by kernel_rfl) (fun _ _ _ h => h) (Or.inl ⟨by rfl, ?_⟩) hHeld ?_ ?_
  rotate_left
  ·rintro w' ⟨s0, s1, s2, s3, s4⟩
   go_simp
   first | done | with_reducible rfl
  rotate_left
  ·simp only [Act.put, List.setIfInBounds_toArray, List.set_cons_zero, List.set_cons_succ, i64_w, i32_w]
   rfl
  refine pure_ (i := 6) (N := some 23) (v := ?_) (a' := ?_) #[true, true, true, true, true, true, true, false, false, false, false] rfl rfl (by kernel_rfl) (fun _ _ _ h => h) (Or.inl ⟨by rfl, ?_⟩) ?_ ?_
  rotate_left
  ·intro w'
   go_simp
   first | done | with_reducible rfl
  rotate_left
  ·simp only [Act.put, List.setIfInBounds_toArray, List.set_cons_zero, List.set_cons_succ, i64_w, i32_w]
   rfl
  refine one_ (i := 7) (N := some 24) #[true, true, true, true, true, true, true, true, false, false, false] rfl rfl (by kernel_rfl) (by decide) (fun K hK => ?_)
  refine goes_ Tryz.func87 (by kernel_rfl) rfl #[.agg #[.int .i64 a2_0, .int .i64 a2_1, .int .i64 a2_2], .int .i64 a3, .int .i64 (wrap64 (x.1 - a3))] (by rfl) rfl rfl (by (try simp only [List.map_toArray, List.map_cons, List.map_nil]); first | done | rfl) ?_
  refine (market_Prices_settled.calls a2_0 a2_1 a2_2 a3 (wrap64 (x.1 - a3)) _ _ (settledV_f _ _ _ _ _)).mono ?_
  rintro e w2 ⟨rfl, hb2⟩
  refine ⟨_, rfl, ?_⟩
  refine hK.out _ _ ⟨pw_cell_below hb2 hHeld.1, pw_cell_below hb2 hHeld.2.1, pw_cell_below hb2 hHeld.2.2.1, pw_cell_below hb2 hHeld.2.2.2.1, pw_cell_below hb2 hHeld.2.2.2.2⟩ (fun hHeld => ?_)
  clear hK K
  refine norm_ (a' := ?_) ?_ ?_
  rotate_left
  ·show Act.put _ (some 24) _ = _
   simp only [Act.put, List.setIfInBounds_toArray, List.set_cons_zero, List.set_cons_succ, i64_w, i32_w]
   rfl
  refine pure_ (i := 8) (N := some 25) (v := ?_) (a' := ?_) #[true, true, true, true, true, true, true, true, true, false, false] rfl rfl (by kernel_rfl) (fun _ _ _ h => h) (Or.inl ⟨by rfl, ?_⟩) ?_ ?_
  rotate_left
  ·intro w'
   go_simp
   first | done | with_reducible rfl
  rotate_left
  ·simp only [Act.put, List.setIfInBounds_toArray, List.set_cons_zero, List.set_cons_succ, i64_w, i32_w]
   rfl
  refine pure_ (i := 9) (N := some 26) (v := ?_) (a' := ?_) #[true, true, true, true, true, true, true, true, true, true, false] rfl rfl (by kernel_rfl) (fun _ _ _ h => h) (Or.inl ⟨by rfl, ?_⟩) ?_ ?_
  rotate_left
  ·intro w'
   go_simp
   first | done | with_reducible rfl
  rotate_left
  ·simp only [Act.put, List.setIfInBounds_toArray, List.set_cons_zero, List.set_cons_succ, i64_w, i32_w]
   rfl
  refine last_ (i := 10) (N := none) #[true, true, true, true, true, true, true, true, true, true, true] rfl rfl (by kernel_rfl) (by decide) (fun K hK => ?_)
  have hfz : w2.frozen? ⟨w.heap.size + 1 + 1, 0, none⟩ = false := (hb2.frozen (World.block_lt_of_cell? _ _ hN1)).trans hf1
  have hs8 := hHeld.2.2.2.2
  refine skip_ (w1 := ?_) (by rfl) rfl ?_ ?_
  rotate_left
  ·go_simp
   rfl
  refine hK.out _ _ ?_
  clear hK K
  refine done_ (by kernel_rfl) ?_
  have hlt := World.block_lt_of_cell? _ _ hQ1
  have hQ2 := pw_cell_below hb2 hQ1
  have hbs : Below w.heap.size W1 (w2.setCell ⟨w.heap.size + 1 + 1, 0, none⟩ (.int .i64 (expStep a2_0 a2_1 a2_2 a3 (pre.foldl (expStep a2_0 a2_1 a2_2 a3) 0) x))) := (hb2.mono hbW1.size).setCell (p := ⟨w.heap.size + 1 + 1, 0, none⟩) (by simp; omega) _
  refine ⟨(hk1.trans (KeepsOthers.of_grownBy (grown_of_below hb2 none) (fun j o e _ => by cases e))).trans (KeepsOthers.setCell _ _ _), hkp1.trans ⟨hbs, ?_⟩, ⟨?_, ?_, ?_, ?_, ?_, ?_, ?_⟩, hbW1.trans hbs⟩
  ·exact (Below.heap_setCell _ ⟨w.heap.size + 1 + 1, 0, none⟩ _ _ (by simp; omega)).trans (hb2.block _ hlt)
  ·exact (World.cell?_setCell_far _ ⟨w.heap.size + 1 + 1, 0, none⟩ ⟨w.heap.size, 0, none⟩ _ (by simp; omega)).trans hHeld.1
  ·exact (World.cell?_setCell_far _ ⟨w.heap.size + 1 + 1, 0, none⟩ ⟨w.heap.size, 1, none⟩ _ (by simp; omega)).trans hHeld.2.1
  ·exact (World.cell?_setCell_far _ ⟨w.heap.size + 1 + 1, 0, none⟩ ⟨w.heap.size, 2, none⟩ _ (by simp; omega)).trans hHeld.2.2.1
  ·exact (World.cell?_setCell_far _ ⟨w.heap.size + 1 + 1, 0, none⟩ ⟨w.heap.size + 1, 0, none⟩ _ (by simp)).trans hHeld.2.2.2.1
  ·rw [List.foldl_append]
   exact World.cell?_setCell_same' _ _ _ (by rw [hs8]; rfl)
  ·rw [World.frozen?_setCell]
   exact hfz
  ·exact (World.cell?_setCell_far _ ⟨w.heap.size + 1 + 1, 0, none⟩ ⟨w.heap.size + 1 + 1 + 1 + 1, 0, none⟩ _ (by simp)).trans hQ2
 case done =>
  rintro D xs W hD rfl ⟨⟨hP0, hP1, hP2, hO, hN, hf, hQ⟩, hbW⟩ hK
  gi_wp2
  refine ⟨by simp, .inl ⟨_, _, rfl, run_takeDeferred hK, ?_⟩⟩
  exact ⟨_, results_tmp rfl _ _ _, by rw [← HR.out]; rfl, hbW.trans (belowK_b (w := w) (Nat.le_refl _) W D _ _ (Nat.le_trans hb5.size hD) hK rfl rfl)⟩
 case stop =>
  rintro D c pre W _ _ h _
  exact h.elim
end Go.Proofs.YtfdlhbdcejlopaaGreatDoor.B
namespace Go.Proofs.YtfdlhbdcejlopaaGreatDoor.B
open Go.RowKit Go.Proofs.YtfdlhbdcejlopaaGreatDoorW.PrintWords Go.Proofs.YtfdlhbdcejlopaaGreatDoorW.PrintLast Go.Proofs.YtfdlhbdcejlopaaGreatDoorW.PrintMore
attribute [local go_sem] max2_int min2_int max_two min_two
set_option linter.unusedVariables false
set_option linter.unusedSimpArgs false
/-! ### market_Expected: function 28 -/
def market_Expected.f (k : Nat) (l0 : List (S156)) (a1 : Int) (a2_0 : Int) (a2_1 : Int) (a2_2 : Int) (a3 : Int) : Option (Int × Int × Int) := (market_checkQuarter.f k l0 a1).bind fun t103 => ((market_CheckPrices.f k a2_0 a2_1 a2_2).bind fun t104 => ((market_checkEnergy.f a3).bind fun t105 => ((market_first.f k (([t103, t104, t105] : List Int))).bind fun t109 => (if t109 = 0 then ((market_expected.f l0 a1 a2_0 a2_1 a2_2 a3).bind fun t110 => ((market_weight.f k l0).bind fun t111 => ((market_ratio.f k t110 t111).bind fun bt112 => (some (bt112.1, bt112.2, 0))))) else (some (0, 0, t109))))))
def market_Expected.T1 : Bool × List (List Nat × List Nat) := (true, [([], []), ([], []), ([0, 1], [0, 1]), ([], []), ([3, 2], [3]), ([], []), ([5, 4], [5]), ([2, 4, 6], [2, 4, 6]), ([7, 6], [7]), ([8, 8, 0, 1, 2, 3, 4, 5, 6, 7, 8], [8])])
def market_Expected.B1 : List Nat := [0, 0, 3, 0, 15, 0, 63, 127, 255, 511]
theorem market_Expected.tab1 : rtab .any (opsOf Tryz.f28 1) = market_Expected.T1 := by kernel_rfl
theorem market_Expected.bits1 : waitsOk market_Expected.T1.2 market_Expected.B1 = true := by kernel_rfl
set_option maxHeartbeats 8000000 in
set_option maxRecDepth 100000 in
theorem market_Expected.calls (k : Nat) (A0 : Option Addr) (c0 : Nat) (l0 : List (S156)) (a1 : Int) (a2_0 : Int) (a2_1 : Int) (a2_2 : Int) (a3 : Int) (r1 : Int) (r2 : Int) (r3 : Int) (w : World) (hr0 : Kd.C k156 w A0 l0.length l0) (hc0 : l0.length ≤ c0) (h : market_Expected.f k l0 a1 a2_0 a2_1 a2_2 a3 = some (r1, r2, r3)) :
  Calls Tryz.prog 28 #[.slice A0 l0.length c0, .int .i64 a1, .agg #[.int .i64 a2_0, .int .i64 a2_1, .int .i64 a2_2], .int .i64 a3] w fun e w' => e = .returned (.tuple #[.agg #[.int .i64 r1, .int .i64 r2], .int .i64 r3]) ∧ Below w.heap.size w w' := by
 have hu31 := Tryz.underlying31
 have hu43 := Tryz.underlying43
 have HR0 := Aside0.mk hr0
 have HC0 := Aside0.mk hc0
 clear hr0 hc0
 have HB := Aside0.mk (Below.refl w.heap.size w)
 have H : ((market_checkQuarter.f k l0 a1).bind fun t103 => ((market_CheckPrices.f k a2_0 a2_1 a2_2).bind fun t104 => ((market_checkEnergy.f a3).bind fun t105 => ((market_first.f k (([t103, t104, t105] : List Int))).bind fun t109 => (if t109 = 0 then ((market_expected.f l0 a1 a2_0 a2_1 a2_2 a3).bind fun t110 => ((market_weight.f k l0).bind fun t111 => ((market_ratio.f k t110 t111).bind fun bt112 => (some (bt112.1, bt112.2, 0))))) else (some (0, 0, t109))))))) = some (r1, r2, r3) := h
 clear h
 replace H := Option.bind_eq_some_iff.mp H
 obtain ⟨t103, A50, H⟩ := H
 replace H : ((market_CheckPrices.f k a2_0 a2_1 a2_2).bind fun t104 => ((market_checkEnergy.f a3).bind fun t105 => ((market_first.f k (([t103, t104, t105] : List Int))).bind fun t109 => (if t109 = 0 then ((market_expected.f l0 a1 a2_0 a2_1 a2_2 a3).bind fun t110 => ((market_weight.f k l0).bind fun t111 => ((market_ratio.f k t110 t111).bind fun bt112 => (some (bt112.1, bt112.2, 0))))) else (some (0, 0, t109)))))) = some (r1, r2, r3) := H
 have A5 := Aside0.mk A50
 clear A50
 replace H := Option.bind_eq_some_iff.mp H
 obtain ⟨t104, A60, H⟩ := H
 replace H : ((market_checkEnergy.f a3).bind fun t105 => ((market_first.f k (([t103, t104, t105] : List Int))).bind fun t109 => (if t109 = 0 then ((market_expected.f l0 a1 a2_0 a2_1 a2_2 a3).bind fun t110 => ((market_weight.f k l0).bind fun t111 => ((market_ratio.f k t110 t111).bind fun bt112 => (some (bt112.1, bt112.2, 0))))) else (some (0, 0, t109))))) = some (r1, r2, r3) := H
 have A6 := Aside0.mk A60
 clear A60
 replace H := Option.bind_eq_some_iff.mp H
 obtain ⟨t105, A70, H⟩ := H
 replace H : ((market_first.f k (([t103, t104, t105] : List Int))).bind fun t109 => (if t109 = 0 then ((market_expected.f l0 a1 a2_0 a2_1 a2_2 a3).bind fun t110 => ((market_weight.f k l0).bind fun t111 => ((market_ratio.f k t110 t111).bind fun bt112 => (some (bt112.1, bt112.2, 0))))) else (some (0, 0, t109)))) = some (r1, r2, r3) := H
 have A7 := Aside0.mk A70
 clear A70
 obtain ⟨y106, hy106⟩ : ∃ y_ : List Int, y_ = (([t103, t104, t105] : List Int)) := ⟨_, rfl⟩
 replace H : ((market_first.f k y106).bind fun t109 => (if t109 = 0 then ((market_expected.f l0 a1 a2_0 a2_1 a2_2 a3).bind fun t110 => ((market_weight.f k l0).bind fun t111 => ((market_ratio.f k t110 t111).bind fun bt112 => (some (bt112.1, bt112.2, 0))))) else (some (0, 0, t109)))) = some (r1, r2, r3) := by first | (rw [hy106]; with_reducible exact H) | (have H2_ := (Option.bind_some _ _).symm.trans H; rw [hy106]; with_reducible exact H2_) | (have H2_ := (Option.bind_some _ _).symm.trans H; with_reducible exact H2_) | with_reducible exact H | (rw [hy106]; exact H) | exact H
 have Ny106 := Aside0.mk hy106
 clear hy106
 replace H := Option.bind_eq_some_iff.mp H
 obtain ⟨t109, A80, H⟩ := H
 replace H : (if t109 = 0 then ((market_expected.f l0 a1 a2_0 a2_1 a2_2 a3).bind fun t110 => ((market_weight.f k l0).bind fun t111 => ((market_ratio.f k t110 t111).bind fun bt112 => (some (bt112.1, bt112.2, 0))))) else (some (0, 0, t109))) = some (r1, r2, r3) := H
 have A8 := Aside0.mk A80
 clear A80
 by_cases c9 : t109 = 0
 ·rw [if_pos c9] at H
  have c9b0 : (t109 == 0) = true := beq_iff_eq.mpr c9
  have c9b1 : (t109 != 0) = false := bne_eq_false_iff_eq.mpr c9
  clear c9
  replace H := Option.bind_eq_some_iff.mp H
  obtain ⟨t110, A100, H⟩ := H
  replace H : ((market_weight.f k l0).bind fun t111 => ((market_ratio.f k t110 t111).bind fun bt112 => (some (bt112.1, bt112.2, 0)))) = some (r1, r2, r3) := H
  have A10 := Aside0.mk A100
  clear A100
  replace H := Option.bind_eq_some_iff.mp H
  obtain ⟨t111, A110, H⟩ := H
  replace H : ((market_ratio.f k t110 t111).bind fun bt112 => (some (bt112.1, bt112.2, 0))) = some (r1, r2, r3) := H
  have A11 := Aside0.mk A110
  clear A110
  replace H := Option.bind_eq_some_iff.mp H
  obtain ⟨⟨t112, t113⟩, A120, H⟩ := H
  replace H : (some (t112, t113, 0)) = some (r1, r2, r3) := H
  have A12 := Aside0.mk A120
  clear A120
  simp only [Option.some.injEq, Prod.mk.injEq] at H
  obtain ⟨rfl, rfl, rfl⟩ := H
  go_enter Tryz.func28, Tryz.ntmps28
  try go_wp2_with (first | ((with_reducible refine gate_dst (N := 6) rfl ?_); refine box_event ?hg (N := 6) ?hd (cs := #[.int .i64 a2_0, .int .i64 a2_1, .int .i64 a2_2]) (t := 31) ?hr ?_; (case hd => rfl); (case hg => rfl); (case hr => first | (go_simp; done) | (go_simp; rfl)); intro gb101 hg w13 hbox hb; have n0_ := Aside0.mk (below_step (ws_ HB.out) hb); have n1_ := Aside0.mk (hbox); have n2_ := Aside0.mk ((by rw [hg]; exact (below_size (ws_ HB.out)) : w.heap.size ≤ gb101)); have n3_ := Aside0.mk ((by rw [hg]; exact (below_size (ws_ HB.out)) : w.heap.size ≤ gb101)); clear HB; have HB := n0_; have BK101 := n1_; have GW101 := n2_; have GE101 := n3_; clear n0_ n1_ n2_ n3_; clear hb hbox hg) | ((with_reducible refine gate_dst (N := 8) rfl ?_); refine box_event ?hg (N := 8) ?hd (cs := #[.int .i64 0, .int .i64 0]) (t := 43) ?hr ?_; (case hd => rfl); (case hg => rfl); (case hr => first | (go_simp; done) | (go_simp; rfl)); intro gb102 hg w14 hbox hb; have n0_ := Aside0.mk (blk_below (g := gb101) (o := .cells #[.int .i64 a2_0, .int .i64 a2_1, .int .i64 a2_2] 31 (0, 0)) (bs_ BK101.out) hb); have n1_ := Aside0.mk (below_step (wg_ HB.out GE101.out) hb); have n2_ := Aside0.mk (hbox); have n3_ := Aside0.mk ((by rw [hg]; exact (below_size (wg_ HB.out GE101.out)) : w.heap.size ≤ gb102)); have n4_ := Aside0.mk ((by rw [hg]; exact (below_size (wg_ HB.out GE101.out)) : w.heap.size ≤ gb102)); have n5_ := Aside0.mk ((by rw [hg]; exact Nat.ne_of_lt (blk_lt (g := gb101) (o := .cells #[.int .i64 a2_0, .int .i64 a2_1, .int .i64 a2_2] 31 (0, 0)) (bs_ BK101.out)) : gb101 ≠ gb102)); have n6_ := Aside0.mk ((by rw [hg]; exact Nat.ne_of_gt (blk_lt (g := gb101) (o := .cells #[.int .i64 a2_0, .int .i64 a2_1, .int .i64 a2_2] 31 (0, 0)) (bs_ BK101.out)) : gb102 ≠ gb101)); clear BK101; clear HB; have BK101 := n0_; have HB := n1_; have BK102 := n2_; have GW102 := n3_; have GE102 := n4_; have NB101_102 := n5_; have NB102_101 := n6_; clear n0_ n1_ n2_ n3_ n4_ n5_ n6_; clear hb hbox hg))
  have n0_ := Aside0.mk (blk_drew BK101.out)
  have n1_ := Aside0.mk (blk_drew BK102.out)
  have n2_ := Aside0.mk (below_drew1 HB.out)
  clear BK101
  clear BK102
  clear HB
  have BK101 := n0_
  have BK102 := n1_
  have HB := n2_
  clear n0_ n1_ n2_
  refine start_ (n := 10) (S := fun w' => w'.cell? ⟨gb101, 0, none⟩ = some (.int .i64 a2_0) ∧ w'.cell? ⟨gb101, 1, none⟩ = some (.int .i64 a2_1) ∧ w'.cell? ⟨gb101, 2, none⟩ = some (.int .i64 a2_2)) (ds := []) #[false, false, false, false, false, false, false, false, false, false] (by kernel_rfl) rfl rfl ⟨(blk_cell BK101.out 0).trans rfl, (blk_cell BK101.out 1).trans rfl, (blk_cell BK101.out 2).trans rfl⟩ (fun hHeld => ?_); refine with_tabW market_Expected.tab1 market_Expected.bits1 (fun HT_ HW_ => ?_)
  generalize w14.drew = w15 at BK101 BK102 HB hHeld ⊢
  refine pv_ 0 11 #[true, false, false, false, false, false, false, false, false, false] (any_of HT_.out (by kernel_rfl)) ?_
  refine pv_ 1 12 #[true, true, false, false, false, false, false, false, false, false] (any_of HT_.out (by kernel_rfl)) ?_
  refine pv_ 5 16 #[true, true, false, false, false, true, false, false, false, false] (any_of HT_.out (by kernel_rfl)) ?_
  refine take_ (i := 3) (N := some 14) (v := ?_) (a' := ?_) #[true, true, false, true, false, true, false, false, false, false] rfl rfl (take_ofW HT_.out HW_.out (by kernel_rfl)) (fun _ _ _ h => h) (Or.inl ⟨by rfl, ?_⟩) hHeld ?_ ?_
  rotate_left
  ·rintro w' ⟨s0, s1, s2⟩
   go_simp
   with_reducible rfl
  rotate_left
  ·simp only [Act.put, List.setIfInBounds_toArray, List.set_cons_zero, List.set_cons_succ, i64_w, i32_w]
   rfl
  refine one_ (i := 2) (N := some 13) #[true, true, true, true, false, true, false, false, false, false] rfl rfl (one_of HT_.out (by kernel_rfl)) (by decide) (fun K hK => ?_)
  refine goes_ Tryz.func94 (by kernel_rfl) rfl #[.slice A0 l0.length c0, .int .i64 a1] (by rfl) rfl rfl (by (try simp only [List.map_toArray, List.map_cons, List.map_nil]); first | done | rfl | (simp only [List.length_drop, List.length_take]; rfl)) ?_
  with_reducible refine (market_checkQuarter.calls k _ _ l0 a1 t103 _ ?side1 ?side2 A5.out).mono ?_
  (case side1 => exact cs_ (Kd.C_below HR0.out HB.out))
  (case side2 => exact HC0.out)
  rintro e w16 ⟨rfl, hb⟩
  refine ⟨_, rfl, ?_⟩
  have n0_ := Aside0.mk (blk_below (g := gb101) (o := .cells #[.int .i64 a2_0, .int .i64 a2_1, .int .i64 a2_2] 31 (0, 0)) (bs_ BK101.out) hb)
  have n1_ := Aside0.mk (blk_below (g := gb102) (o := .cells #[.int .i64 0, .int .i64 0] 43 (0, 0)) (bs_ BK102.out) hb)
  have n2_ := Aside0.mk (below_step (by repeat (first | (with_reducible first | exact HB.out | apply below_alloc | apply pw_below_drewN | apply below_drew1 | refine below_set ?_ GE101.out | refine below_set ?_ GE102.out) | exact HB.out)) hb)
  clear BK101
  clear BK102
  clear HB
  have BK101 := n0_
  have BK102 := n1_
  have HB := n2_
  clear n0_ n1_ n2_
  (try clear hb)
  (try clear hb2)
  (try clear hk)
  (try clear hi)
  refine hK.out _ _ ⟨(blk_cell BK101.out 0).trans rfl, (blk_cell BK101.out 1).trans rfl, (blk_cell BK101.out 2).trans rfl⟩ (fun hHeld => ?_)
  clear hK K
  refine norm_ (a' := ?_) ?_ ?_
  rotate_left
  ·show Act.put _ (some 13) _ = _
   simp only [Act.put, List.setIfInBounds_toArray, List.set_cons_zero, List.set_cons_succ, i64_w, i32_w]
   rfl
  refine one_ (i := 4) (N := some 15) #[true, true, true, true, true, true, false, false, false, false] rfl rfl (one_of HT_.out (by kernel_rfl)) (by decide) (fun K hK => ?_)
  refine goes_ Tryz.func27 (by kernel_rfl) rfl #[.agg #[.int .i64 a2_0, .int .i64 a2_1, .int .i64 a2_2]] (by rfl) rfl rfl (by (try simp only [List.map_toArray, List.map_cons, List.map_nil]); first | done | rfl | (simp only [List.length_drop, List.length_take]; rfl)) ?_
  with_reducible refine (market_CheckPrices.calls k a2_0 a2_1 a2_2 t104 _ A6.out).mono ?_
  rintro e w17 ⟨rfl, hb⟩
  refine ⟨_, rfl, ?_⟩
  have n0_ := Aside0.mk (blk_below (g := gb101) (o := .cells #[.int .i64 a2_0, .int .i64 a2_1, .int .i64 a2_2] 31 (0, 0)) (bs_ BK101.out) hb)
  have n1_ := Aside0.mk (blk_below (g := gb102) (o := .cells #[.int .i64 0, .int .i64 0] 43 (0, 0)) (bs_ BK102.out) hb)
  have n2_ := Aside0.mk (below_step (by repeat (first | (with_reducible first | exact HB.out | apply below_alloc | apply pw_below_drewN | apply below_drew1 | refine below_set ?_ GE101.out | refine below_set ?_ GE102.out) | exact HB.out)) hb)
  clear BK101
  clear BK102
  clear HB
  have BK101 := n0_
  have BK102 := n1_
  have HB := n2_
  clear n0_ n1_ n2_
  (try clear hb)
  (try clear hb2)
  (try clear hk)
  (try clear hi)
  refine hK.out _ _ ⟨(blk_cell BK101.out 0).trans rfl, (blk_cell BK101.out 1).trans rfl, (blk_cell BK101.out 2).trans rfl⟩ (fun hHeld => ?_)
  clear hK K
  refine norm_ (a' := ?_) ?_ ?_
  rotate_left
  ·show Act.put _ (some 15) _ = _
   simp only [Act.put, List.setIfInBounds_toArray, List.set_cons_zero, List.set_cons_succ, i64_w, i32_w]
   rfl
  refine one_ (i := 6) (N := some 17) #[true, true, true, true, true, true, true, false, false, false] rfl rfl (one_of HT_.out (by kernel_rfl)) (by decide) (fun K hK => ?_)
  refine goes_ Tryz.func86 (by kernel_rfl) rfl #[.int .i64 a3] (by rfl) rfl rfl (by (try simp only [List.map_toArray, List.map_cons, List.map_nil]); first | done | rfl | (simp only [List.length_drop, List.length_take]; rfl)) ?_
  with_reducible refine (market_checkEnergy.calls a3 t105 _ A7.out).mono ?_
  rintro e w' ⟨rfl, ⟨nd, rfl⟩⟩
  refine ⟨_, rfl, ?_⟩
  refine hK.out _ _ ⟨(blk_cell BK101.out 0).trans rfl, (blk_cell BK101.out 1).trans rfl, (blk_cell BK101.out 2).trans rfl⟩ (fun hHeld => ?_)
  clear hK K
  refine norm_ (a' := ?_) ?_ ?_
  rotate_left
  ·show Act.put _ (some 17) _ = _
   simp only [Act.put, List.setIfInBounds_toArray, List.set_cons_zero, List.set_cons_succ, i64_w, i32_w]
   rfl
  refine one_ (i := 7) (N := some 18) #[true, true, true, true, true, true, true, true, false, false] rfl rfl (one_of HT_.out (by kernel_rfl)) (by decide) (fun K hK => ?_)
  refine Kd.R_lit_step (Kd.int .i64) _ 28 ?hg (N := 18) ?hd (xs := ([t103, t104, t105] : List Int)) (inner := [.int .i64 t103, .int .i64 t104, .int .i64 t105]) (ok := fun _ => True) (okp := fun _ => True) ?hr ?hp (fun _ hk => hk) trivial (Below.refl _ _) (Nat.le_refl _) (by simp) ?_; (case hd => rfl); (case hg => rfl); (case hr => first | (go_simp; done) | (go_simp; rfl)); (case hp => exact (Reps.one (show Kd.M (Kd.int .i64) _ _ _ t103 [.int .i64 t103] from rfl) (Reps.one (show Kd.M (Kd.int .i64) _ _ _ t104 [.int .i64 t104] from rfl) (Reps.one (show Kd.M (Kd.int .i64) _ _ _ t105 [.int .i64 t105] from rfl) (Reps.none _ _)))))
  intro v107 w18 ho19 hb hg_ hnew_
  clear hg_ hnew_
  (first | rw [← Ny106.out] at ho19 | (simp only [Int.reduceToNat] at ho19; rw [← Ny106.out] at ho19))
  have n0_ := Aside0.mk (Kd.R_lower ho19 (below_size (by repeat (first | (with_reducible first | exact HB.out | apply below_alloc | apply pw_below_drewN | apply below_drew1 | refine below_set ?_ GE101.out | refine below_set ?_ GE102.out) | exact HB.out))))
  have n1_ := Aside0.mk (blk_below (g := gb101) (o := .cells #[.int .i64 a2_0, .int .i64 a2_1, .int .i64 a2_2] 31 (0, 0)) (bs_ BK101.out) hb)
  have n2_ := Aside0.mk (blk_below (g := gb102) (o := .cells #[.int .i64 0, .int .i64 0] 43 (0, 0)) (bs_ BK102.out) hb)
  have n3_ := Aside0.mk (below_step (by repeat (first | (with_reducible first | exact HB.out | apply below_alloc | apply pw_below_drewN | apply below_drew1 | refine below_set ?_ GE101.out | refine below_set ?_ GE102.out) | exact HB.out)) hb)
  clear BK101
  clear BK102
  clear HB
  have HO108 := n0_
  have BK101 := n1_
  have BK102 := n2_
  have HB := n3_
  clear n0_ n1_ n2_ n3_
  clear hb ho19
  obtain ⟨Ao20, co20, eo20⟩ := Kd.R_slice HO108.out
  (first | subst eo20 | (injection eo20 with f1_ f2_ f3_; have f4_ := f1_.symm; have f5_ := f3_.symm; clear f1_ f2_ f3_; subst f4_; subst f5_))
  refine hK.out _ _ ⟨(blk_cell BK101.out 0).trans rfl, (blk_cell BK101.out 1).trans rfl, (blk_cell BK101.out 2).trans rfl⟩ (fun hHeld => ?_)
  clear hK K
  refine norm_ (a' := ?_) ?_ ?_
  rotate_left
  ·show Act.put _ (some 18) _ = _
   simp only [Act.put, List.setIfInBounds_toArray, List.set_cons_zero, List.set_cons_succ, i64_w, i32_w]
   rfl
  refine one_ (i := 8) (N := some 19) #[true, true, true, true, true, true, true, true, true, false] rfl rfl (one_of HT_.out (by kernel_rfl)) (by decide) (fun K hK => ?_)
  refine goes_ Tryz.func85 (by kernel_rfl) rfl #[.slice Ao20 y106.length co20] (by rfl) rfl rfl (by (try simp only [List.map_toArray, List.map_cons, List.map_nil]); first | done | rfl | (simp only [List.length_drop, List.length_take]; rfl)) ?_
  with_reducible refine (market_first.calls k _ _ y106 t109 _ ?side1 ?side2 A8.out).mono ?_
  (case side1 => repeat (first | exact (Kd.R_reads' HO108.out).2.2 | (with_reducible refine Kd.C_alloc ?_ _) | (with_reducible refine Kd.C_drewN ?_ _) | (with_reducible refine Kd.C_drew ?_)))
  (case side2 => exact (Kd.R_reads' HO108.out).2.1)
  rintro e w' ⟨rfl, ⟨nd, rfl⟩⟩
  refine ⟨_, rfl, ?_⟩
  refine hK.out _ _ ⟨(blk_cell BK101.out 0).trans rfl, (blk_cell BK101.out 1).trans rfl, (blk_cell BK101.out 2).trans rfl⟩ (fun hHeld => ?_)
  clear hK K
  refine norm_ (a' := ?_) ?_ ?_
  rotate_left
  ·show Act.put _ (some 19) _ = _
   simp only [Act.put, List.setIfInBounds_toArray, List.set_cons_zero, List.set_cons_succ, i64_w, i32_w]
   rfl
  refine pv_ 9 10 #[true, true, true, true, true, true, true, true, true, true] (any_of HT_.out (by kernel_rfl)) ?_
  refine done_ (done_of HT_.out (by kernel_rfl)) ?_
  have hnb21 := NB101_102.out
  have hnc21 := NB102_101.out
  have hcz22_0 : w18.cell? ⟨gb101, 0, none⟩ = some (.int .i64 a2_0) := (blk_cell BK101.out 0).trans rfl
  have hcz22_1 : w18.cell? ⟨gb101, 1, none⟩ = some (.int .i64 a2_1) := (blk_cell BK101.out 1).trans rfl
  have hcz22_2 : w18.cell? ⟨gb101, 2, none⟩ = some (.int .i64 a2_2) := (blk_cell BK101.out 2).trans rfl
  have hfz22_0 := blk_frozen BK101.out 0
  have hfz22_1 := blk_frozen BK101.out 1
  have hfz22_2 := blk_frozen BK101.out 2
  try go_wp2_with (first | ((with_reducible refine gate_callee (f := 96) rfl ?_); refine gl_ (some 28) Tryz.func96 #[.slice A0 l0.length c0, .int .i64 a1, .agg #[.int .i64 a2_0, .int .i64 a2_1, .int .i64 a2_2], .int .i64 a3] ?_; (with_reducible refine (market_expected.calls _ _ l0 a1 a2_0 a2_1 a2_2 a3 t110 _ ?side1 ?side2 A10.out).mono ?_); (case side1 => repeat (first | exact (Kd.C_below HR0.out (by repeat (first | (with_reducible first | exact HB.out | apply below_alloc | apply pw_below_drewN | apply below_drew1 | refine below_set ?_ GE101.out | refine below_set ?_ GE102.out) | exact HB.out))) | (with_reducible refine Kd.C_alloc ?_ _) | (with_reducible refine Kd.C_drewN ?_ _) | (with_reducible refine Kd.C_drew ?_))); (case side2 => exact HC0.out); rintro e w23 ⟨rfl, hb⟩; refine ⟨_, rfl, ?_⟩; have n0_ := Aside0.mk (Kd.R_below (rs_ HO108.out) hb); have n1_ := Aside0.mk (blk_below (g := gb101) (o := .cells #[.int .i64 a2_0, .int .i64 a2_1, .int .i64 a2_2] 31 (0, 0)) (bs_ BK101.out) hb); have n2_ := Aside0.mk (blk_below (g := gb102) (o := .cells #[.int .i64 0, .int .i64 0] 43 (0, 0)) (bs_ BK102.out) hb); have n3_ := Aside0.mk (below_step (by repeat (first | (with_reducible first | exact HB.out | apply below_alloc | apply pw_below_drewN | apply below_drew1 | refine below_set ?_ GE101.out | refine below_set ?_ GE102.out) | exact HB.out)) hb); clear HO108; clear BK101; clear BK102; clear HB; have HO108 := n0_; have BK101 := n1_; have BK102 := n2_; have HB := n3_; clear n0_ n1_ n2_ n3_; (try clear hb); (try clear hb2); (try clear hk); (try clear hi)) | ((with_reducible refine gate_callee (f := 97) rfl ?_); refine gl_ (some 30) Tryz.func97 #[.slice A0 l0.length c0] ?_; (with_reducible refine (market_weight.calls k _ _ l0 t111 _ ?side1 ?side2 A11.out).mono ?_); (case side1 => exact cs_ (Kd.C_below HR0.out HB.out)); (case side2 => exact HC0.out); rintro e w24 ⟨rfl, hb⟩; refine ⟨_, rfl, ?_⟩; have n0_ := Aside0.mk (Kd.R_below (rs_ HO108.out) hb); have n1_ := Aside0.mk (blk_below (g := gb101) (o := .cells #[.int .i64 a2_0, .int .i64 a2_1, .int .i64 a2_2] 31 (0, 0)) (bs_ BK101.out) hb); have n2_ := Aside0.mk (blk_below (g := gb102) (o := .cells #[.int .i64 0, .int .i64 0] 43 (0, 0)) (bs_ BK102.out) hb); have n3_ := Aside0.mk (below_step (by repeat (first | (with_reducible first | exact HB.out | apply below_alloc | apply pw_below_drewN | apply below_drew1 | refine below_set ?_ GE101.out | refine below_set ?_ GE102.out) | exact HB.out)) hb); clear HO108; clear BK101; clear BK102; clear HB; have HO108 := n0_; have BK101 := n1_; have BK102 := n2_; have HB := n3_; clear n0_ n1_ n2_ n3_; (try clear hb); (try clear hb2); (try clear hk); (try clear hi)) | ((with_reducible refine gate_callee (f := 95) rfl ?_); refine gl_ (some 31) Tryz.func95 #[.int .i64 t110, .int .i64 t111] ?_; (with_reducible refine (market_ratio.calls k t110 t111 t112 t113 _ A12.out).mono ?_); rintro e w25 ⟨rfl, hb⟩; refine ⟨_, rfl, ?_⟩; have n0_ := Aside0.mk (Kd.R_below (rs_ HO108.out) hb); have n1_ := Aside0.mk (blk_below (g := gb101) (o := .cells #[.int .i64 a2_0, .int .i64 a2_1, .int .i64 a2_2] 31 (0, 0)) (bs_ BK101.out) hb); have n2_ := Aside0.mk (blk_below (g := gb102) (o := .cells #[.int .i64 0, .int .i64 0] 43 (0, 0)) (bs_ BK102.out) hb); have n3_ := Aside0.mk (below_step (by repeat (first | (with_reducible first | exact HB.out | apply below_alloc | apply pw_below_drewN | apply below_drew1 | refine below_set ?_ GE101.out | refine below_set ?_ GE102.out) | exact HB.out)) hb); clear HO108; clear BK101; clear BK102; clear HB; have HO108 := n0_; have BK101 := n1_; have BK102 := n2_; have HB := n3_; clear n0_ n1_ n2_ n3_; (try clear hb); (try clear hb2); (try clear hk); (try clear hi); have hcz26_0 : w25.cell? ⟨gb102, 0, none⟩ = some (.int .i64 0) := (blk_cell BK102.out 0).trans rfl; have hcz26_1 : w25.cell? ⟨gb102, 1, none⟩ = some (.int .i64 0) := (blk_cell BK102.out 1).trans rfl; have hfz26_0 := blk_frozen BK102.out 0; have hfz26_1 := blk_frozen BK102.out 1))
  refine bodyPost_ret (results_ct rfl _ _ gb102 43 #[.int .i64 t112, .int .i64 t113] (0, 0) _ rfl (by (with_reducible repeat (first | refine blk_drewN ?_ _ | refine blk_drew ?_ | refine blk_alloc ?_ _)); refine blk_put (cs := #[.int .i64 t112, .int .i64 0]) ?_ 1 _ rfl; (with_reducible repeat (first | refine blk_drewN ?_ _ | refine blk_drew ?_ | refine blk_alloc ?_ _)); refine blk_put (cs := #[.int .i64 0, .int .i64 0]) ?_ 0 _ rfl; (with_reducible repeat (first | refine blk_drewN ?_ _ | refine blk_drew ?_ | refine blk_alloc ?_ _)); exact BK102.out) Tryz.underlying43 rfl (by kernel_rfl)) rfl ?_
  exact ⟨by first | rfl | (simp [errW_none, errW_some] <;> rfl) | (simp [*, errW_none, errW_some] <;> rfl), by repeat (first | (with_reducible first | exact HB.out | apply below_alloc | apply pw_below_drewN | apply below_drew1 | refine below_set ?_ GE101.out | refine below_set ?_ GE102.out) | exact HB.out)⟩
 ·rw [if_neg c9] at H
  have c9b0 : (t109 == 0) = false := beq_eq_false_iff_ne.mpr c9
  have c9b1 : (t109 != 0) = true := bne_iff_ne.mpr c9
  simp only [Option.some.injEq, Prod.mk.injEq] at H
  obtain ⟨rfl, rfl, rfl⟩ := H
  go_enter Tryz.func28, Tryz.ntmps28
  try go_wp2_with (first | ((with_reducible refine gate_dst (N := 6) rfl ?_); refine box_event ?hg (N := 6) ?hd (cs := #[.int .i64 a2_0, .int .i64 a2_1, .int .i64 a2_2]) (t := 31) ?hr ?_; (case hd => rfl); (case hg => rfl); (case hr => first | (go_simp; done) | (go_simp; rfl)); intro gb101 hg w27 hbox hb; have n0_ := Aside0.mk (below_step (ws_ HB.out) hb); have n1_ := Aside0.mk (hbox); have n2_ := Aside0.mk ((by rw [hg]; exact (below_size (ws_ HB.out)) : w.heap.size ≤ gb101)); have n3_ := Aside0.mk ((by rw [hg]; exact (below_size (ws_ HB.out)) : w.heap.size ≤ gb101)); clear HB; have HB := n0_; have BK101 := n1_; have GW101 := n2_; have GE101 := n3_; clear n0_ n1_ n2_ n3_; clear hb hbox hg) | ((with_reducible refine gate_dst (N := 8) rfl ?_); refine box_event ?hg (N := 8) ?hd (cs := #[.int .i64 0, .int .i64 0]) (t := 43) ?hr ?_; (case hd => rfl); (case hg => rfl); (case hr => first | (go_simp; done) | (go_simp; rfl)); intro gb102 hg w28 hbox hb; have n0_ := Aside0.mk (blk_below (g := gb101) (o := .cells #[.int .i64 a2_0, .int .i64 a2_1, .int .i64 a2_2] 31 (0, 0)) (bs_ BK101.out) hb); have n1_ := Aside0.mk (below_step (wg_ HB.out GE101.out) hb); have n2_ := Aside0.mk (hbox); have n3_ := Aside0.mk ((by rw [hg]; exact (below_size (wg_ HB.out GE101.out)) : w.heap.size ≤ gb102)); have n4_ := Aside0.mk ((by rw [hg]; exact (below_size (wg_ HB.out GE101.out)) : w.heap.size ≤ gb102)); have n5_ := Aside0.mk ((by rw [hg]; exact Nat.ne_of_lt (blk_lt (g := gb101) (o := .cells #[.int .i64 a2_0, .int .i64 a2_1, .int .i64 a2_2] 31 (0, 0)) (bs_ BK101.out)) : gb101 ≠ gb102)); have n6_ := Aside0.mk ((by rw [hg]; exact Nat.ne_of_gt (blk_lt (g := gb101) (o := .cells #[.int .i64 a2_0, .int .i64 a2_1, .int .i64 a2_2] 31 (0, 0)) (bs_ BK101.out)) : gb102 ≠ gb101)); clear BK101; clear HB; have BK101 := n0_; have HB := n1_; have BK102 := n2_; have GW102 := n3_; have GE102 := n4_; have NB101_102 := n5_; have NB102_101 := n6_; clear n0_ n1_ n2_ n3_ n4_ n5_ n6_; clear hb hbox hg))
  have n0_ := Aside0.mk (blk_drew BK101.out)
  have n1_ := Aside0.mk (blk_drew BK102.out)
  have n2_ := Aside0.mk (below_drew1 HB.out)
  clear BK101
  clear BK102
  clear HB
  have BK101 := n0_
  have BK102 := n1_
  have HB := n2_
  clear n0_ n1_ n2_
  refine start_ (n := 10) (S := fun w' => w'.cell? ⟨gb101, 0, none⟩ = some (.int .i64 a2_0) ∧ w'.cell? ⟨gb101, 1, none⟩ = some (.int .i64 a2_1) ∧ w'.cell? ⟨gb101, 2, none⟩ = some (.int .i64 a2_2)) (ds := []) #[false, false, false, false, false, false, false, false, false, false] (by kernel_rfl) rfl rfl ⟨(blk_cell BK101.out 0).trans rfl, (blk_cell BK101.out 1).trans rfl, (blk_cell BK101.out 2).trans rfl⟩ (fun hHeld => ?_); refine with_tabW market_Expected.tab1 market_Expected.bits1 (fun HT_ HW_ => ?_)
  generalize w28.drew = w29 at BK101 BK102 HB hHeld ⊢
  refine pv_ 0 11 #[true, false, false, false, false, false, false, false, false, false] (any_of HT_.out (by kernel_rfl)) ?_
  refine pv_ 1 12 #[true, true, false, false, false, false, false, false, false, false] (any_of HT_.out (by kernel_rfl)) ?_
  refine pv_ 5 16 #[true, true, false, false, false, true, false, false, false, false] (any_of HT_.out (by kernel_rfl)) ?_
  refine take_ (i := 3) (N := some 14) (v := ?_) (a' := ?_) #[true, true, false, true, false, true, false, false, false, false] rfl rfl (take_ofW HT_.out HW_.out (by kernel_rfl)) (fun _ _ _ h => h) (Or.inl ⟨by rfl, ?_⟩) hHeld ?_ ?_
  rotate_left
  ·rintro w' ⟨s0, s1, s2⟩
   go_simp
   with_reducible rfl
  rotate_left
  ·simp only [Act.put, List.setIfInBounds_toArray, List.set_cons_zero, List.set_cons_succ, i64_w, i32_w]
   rfl
  refine one_ (i := 2) (N := some 13) #[true, true, true, true, false, true, false, false, false, false] rfl rfl (one_of HT_.out (by kernel_rfl)) (by decide) (fun K hK => ?_)
  refine goes_ Tryz.func94 (by kernel_rfl) rfl #[.slice A0 l0.length c0, .int .i64 a1] (by rfl) rfl rfl (by (try simp only [List.map_toArray, List.map_cons, List.map_nil]); first | done | rfl | (simp only [List.length_drop, List.length_take]; rfl)) ?_
  with_reducible refine (market_checkQuarter.calls k _ _ l0 a1 t103 _ ?side1 ?side2 A5.out).mono ?_
  (case side1 => exact cs_ (Kd.C_below HR0.out HB.out))
  (case side2 => exact HC0.out)
  rintro e w30 ⟨rfl, hb⟩
  refine ⟨_, rfl, ?_⟩
  have n0_ := Aside0.mk (blk_below (g := gb101) (o := .cells #[.int .i64 a2_0, .int .i64 a2_1, .int .i64 a2_2] 31 (0, 0)) (bs_ BK101.out) hb)
  have n1_ := Aside0.mk (blk_below (g := gb102) (o := .cells #[.int .i64 0, .int .i64 0] 43 (0, 0)) (bs_ BK102.out) hb)
  have n2_ := Aside0.mk (below_step (by repeat (first | (with_reducible first | exact HB.out | apply below_alloc | apply pw_below_drewN | apply below_drew1 | refine below_set ?_ GE101.out | refine below_set ?_ GE102.out) | exact HB.out)) hb)
  clear BK101
  clear BK102
  clear HB
  have BK101 := n0_
  have BK102 := n1_
  have HB := n2_
  clear n0_ n1_ n2_
  (try clear hb)
  (try clear hb2)
  (try clear hk)
  (try clear hi)
  refine hK.out _ _ ⟨(blk_cell BK101.out 0).trans rfl, (blk_cell BK101.out 1).trans rfl, (blk_cell BK101.out 2).trans rfl⟩ (fun hHeld => ?_)
  clear hK K
  refine norm_ (a' := ?_) ?_ ?_
  rotate_left
  ·show Act.put _ (some 13) _ = _
   simp only [Act.put, List.setIfInBounds_toArray, List.set_cons_zero, List.set_cons_succ, i64_w, i32_w]
   rfl
  refine one_ (i := 4) (N := some 15) #[true, true, true, true, true, true, false, false, false, false] rfl rfl (one_of HT_.out (by kernel_rfl)) (by decide) (fun K hK => ?_)
  refine goes_ Tryz.func27 (by kernel_rfl) rfl #[.agg #[.int .i64 a2_0, .int .i64 a2_1, .int .i64 a2_2]] (by rfl) rfl rfl (by (try simp only [List.map_toArray, List.map_cons, List.map_nil]); first | done | rfl | (simp only [List.length_drop, List.length_take]; rfl)) ?_
  with_reducible refine (market_CheckPrices.calls k a2_0 a2_1 a2_2 t104 _ A6.out).mono ?_
  rintro e w31 ⟨rfl, hb⟩
  refine ⟨_, rfl, ?_⟩
  have n0_ := Aside0.mk (blk_below (g := gb101) (o := .cells #[.int .i64 a2_0, .int .i64 a2_1, .int .i64 a2_2] 31 (0, 0)) (bs_ BK101.out) hb)
  have n1_ := Aside0.mk (blk_below (g := gb102) (o := .cells #[.int .i64 0, .int .i64 0] 43 (0, 0)) (bs_ BK102.out) hb)
  have n2_ := Aside0.mk (below_step (by repeat (first | (with_reducible first | exact HB.out | apply below_alloc | apply pw_below_drewN | apply below_drew1 | refine below_set ?_ GE101.out | refine below_set ?_ GE102.out) | exact HB.out)) hb)
  clear BK101
  clear BK102
  clear HB
  have BK101 := n0_
  have BK102 := n1_
  have HB := n2_
  clear n0_ n1_ n2_
  (try clear hb)
  (try clear hb2)
  (try clear hk)
  (try clear hi)
  refine hK.out _ _ ⟨(blk_cell BK101.out 0).trans rfl, (blk_cell BK101.out 1).trans rfl, (blk_cell BK101.out 2).trans rfl⟩ (fun hHeld => ?_)
  clear hK K
  refine norm_ (a' := ?_) ?_ ?_
  rotate_left
  ·show Act.put _ (some 15) _ = _
   simp only [Act.put, List.setIfInBounds_toArray, List.set_cons_zero, List.set_cons_succ, i64_w, i32_w]
   rfl
  refine one_ (i := 6) (N := some 17) #[true, true, true, true, true, true, true, false, false, false] rfl rfl (one_of HT_.out (by kernel_rfl)) (by decide) (fun K hK => ?_)
  refine goes_ Tryz.func86 (by kernel_rfl) rfl #[.int .i64 a3] (by rfl) rfl rfl (by (try simp only [List.map_toArray, List.map_cons, List.map_nil]); first | done | rfl | (simp only [List.length_drop, List.length_take]; rfl)) ?_
  with_reducible refine (market_checkEnergy.calls a3 t105 _ A7.out).mono ?_
  rintro e w' ⟨rfl, ⟨nd, rfl⟩⟩
  refine ⟨_, rfl, ?_⟩
  refine hK.out _ _ ⟨(blk_cell BK101.out 0).trans rfl, (blk_cell BK101.out 1).trans rfl, (blk_cell BK101.out 2).trans rfl⟩ (fun hHeld => ?_)
  clear hK K
  refine norm_ (a' := ?_) ?_ ?_
  rotate_left
  ·show Act.put _ (some 17) _ = _
   simp only [Act.put, List.setIfInBounds_toArray, List.set_cons_zero, List.set_cons_succ, i64_w, i32_w]
   rfl
  refine one_ (i := 7) (N := some 18) #[true, true, true, true, true, true, true, true, false, false] rfl rfl (one_of HT_.out (by kernel_rfl)) (by decide) (fun K hK => ?_)
  refine Kd.R_lit_step (Kd.int .i64) _ 28 ?hg (N := 18) ?hd (xs := ([t103, t104, t105] : List Int)) (inner := [.int .i64 t103, .int .i64 t104, .int .i64 t105]) (ok := fun _ => True) (okp := fun _ => True) ?hr ?hp (fun _ hk => hk) trivial (Below.refl _ _) (Nat.le_refl _) (by simp) ?_; (case hd => rfl); (case hg => rfl); (case hr => first | (go_simp; done) | (go_simp; rfl)); (case hp => exact (Reps.one (show Kd.M (Kd.int .i64) _ _ _ t103 [.int .i64 t103] from rfl) (Reps.one (show Kd.M (Kd.int .i64) _ _ _ t104 [.int .i64 t104] from rfl) (Reps.one (show Kd.M (Kd.int .i64) _ _ _ t105 [.int .i64 t105] from rfl) (Reps.none _ _)))))
  intro v107 w32 ho33 hb hg_ hnew_
  clear hg_ hnew_
  (first | rw [← Ny106.out] at ho33 | (simp only [Int.reduceToNat] at ho33; rw [← Ny106.out] at ho33))
  have n0_ := Aside0.mk (Kd.R_lower ho33 (below_size (by repeat (first | (with_reducible first | exact HB.out | apply below_alloc | apply pw_below_drewN | apply below_drew1 | refine below_set ?_ GE101.out | refine below_set ?_ GE102.out) | exact HB.out))))
  have n1_ := Aside0.mk (blk_below (g := gb101) (o := .cells #[.int .i64 a2_0, .int .i64 a2_1, .int .i64 a2_2] 31 (0, 0)) (bs_ BK101.out) hb)
  have n2_ := Aside0.mk (blk_below (g := gb102) (o := .cells #[.int .i64 0, .int .i64 0] 43 (0, 0)) (bs_ BK102.out) hb)
  have n3_ := Aside0.mk (below_step (by repeat (first | (with_reducible first | exact HB.out | apply below_alloc | apply pw_below_drewN | apply below_drew1 | refine below_set ?_ GE101.out | refine below_set ?_ GE102.out) | exact HB.out)) hb)
  clear BK101
  clear BK102
  clear HB
  have HO108 := n0_
  have BK101 := n1_
  have BK102 := n2_
  have HB := n3_
  clear n0_ n1_ n2_ n3_
  clear hb ho33
  obtain ⟨Ao34, co34, eo34⟩ := Kd.R_slice HO108.out
  (first | subst eo34 | (injection eo34 with f1_ f2_ f3_; have f4_ := f1_.symm; have f5_ := f3_.symm; clear f1_ f2_ f3_; subst f4_; subst f5_))
  refine hK.out _ _ ⟨(blk_cell BK101.out 0).trans rfl, (blk_cell BK101.out 1).trans rfl, (blk_cell BK101.out 2).trans rfl⟩ (fun hHeld => ?_)
  clear hK K
  refine norm_ (a' := ?_) ?_ ?_
  rotate_left
  ·show Act.put _ (some 18) _ = _
   simp only [Act.put, List.setIfInBounds_toArray, List.set_cons_zero, List.set_cons_succ, i64_w, i32_w]
   rfl
  refine one_ (i := 8) (N := some 19) #[true, true, true, true, true, true, true, true, true, false] rfl rfl (one_of HT_.out (by kernel_rfl)) (by decide) (fun K hK => ?_)
  refine goes_ Tryz.func85 (by kernel_rfl) rfl #[.slice Ao34 y106.length co34] (by rfl) rfl rfl (by (try simp only [List.map_toArray, List.map_cons, List.map_nil]); first | done | rfl | (simp only [List.length_drop, List.length_take]; rfl)) ?_
  with_reducible refine (market_first.calls k _ _ y106 t109 _ ?side1 ?side2 A8.out).mono ?_
  (case side1 => repeat (first | exact (Kd.R_reads' HO108.out).2.2 | (with_reducible refine Kd.C_alloc ?_ _) | (with_reducible refine Kd.C_drewN ?_ _) | (with_reducible refine Kd.C_drew ?_)))
  (case side2 => exact (Kd.R_reads' HO108.out).2.1)
  rintro e w' ⟨rfl, ⟨nd, rfl⟩⟩
  refine ⟨_, rfl, ?_⟩
  refine hK.out _ _ ⟨(blk_cell BK101.out 0).trans rfl, (blk_cell BK101.out 1).trans rfl, (blk_cell BK101.out 2).trans rfl⟩ (fun hHeld => ?_)
  clear hK K
  refine norm_ (a' := ?_) ?_ ?_
  rotate_left
  ·show Act.put _ (some 19) _ = _
   simp only [Act.put, List.setIfInBounds_toArray, List.set_cons_zero, List.set_cons_succ, i64_w, i32_w]
   rfl
  refine pv_ 9 10 #[true, true, true, true, true, true, true, true, true, true] (any_of HT_.out (by kernel_rfl)) ?_
  refine done_ (done_of HT_.out (by kernel_rfl)) ?_
  have hnb35 := NB102_101.out
  have hnc35 := NB101_102.out
  have hcz36_0 : w32.cell? ⟨gb102, 0, none⟩ = some (.int .i64 0) := (blk_cell BK102.out 0).trans rfl
  have hcz36_1 : w32.cell? ⟨gb102, 1, none⟩ = some (.int .i64 0) := (blk_cell BK102.out 1).trans rfl
  have hfz36_0 := blk_frozen BK102.out 0
  have hfz36_1 := blk_frozen BK102.out 1
  try go_wp2
  refine bodyPost_ret (results_ct rfl _ _ gb102 43 #[.int .i64 0, .int .i64 0] (0, 0) _ rfl (by (with_reducible repeat (first | refine blk_drewN ?_ _ | refine blk_drew ?_ | refine blk_alloc ?_ _)); refine blk_put (cs := #[.int .i64 0, .int .i64 0]) ?_ 1 _ rfl; (with_reducible repeat (first | refine blk_drewN ?_ _ | refine blk_drew ?_ | refine blk_alloc ?_ _)); refine blk_put (cs := #[.int .i64 0, .int .i64 0]) ?_ 0 _ rfl; (with_reducible repeat (first | refine blk_drewN ?_ _ | refine blk_drew ?_ | refine blk_alloc ?_ _)); exact BK102.out) Tryz.underlying43 rfl (by kernel_rfl)) rfl ?_
  exact ⟨by first | rfl | (simp [errW_none, errW_some] <;> rfl) | (simp [*, errW_none, errW_some] <;> rfl), by repeat (first | (with_reducible first | exact HB.out | apply below_alloc | apply pw_below_drewN | apply below_drew1 | refine below_set ?_ GE101.out | refine below_set ?_ GE102.out) | exact HB.out)⟩
end Go.Proofs.YtfdlhbdcejlopaaGreatDoor.B
namespace Go.Proofs.YtfdlhbdcejlopaaGreatDoor.B
open Go.RowKit Go.Proofs.YtfdlhbdcejlopaaGreatDoorW.PrintWords Go.Proofs.YtfdlhbdcejlopaaGreatDoorW.PrintLast Go.Proofs.YtfdlhbdcejlopaaGreatDoorW.PrintMore
set_option linter.unusedVariables false
set_option linter.unusedSimpArgs false
section
variable {P : Program} {ops : Array Oper} {Q : Exit → Act → World → Prop}
theorem goesTB_ {rest : List Oper} {oi : Oper} {a : Act} {w : World} {t : Tmp} (N : Option Tmp) (hd : oi.dst = N) (hg : oi.guard = none) {f : FuncId} {fn : Func} {bs : Array Operand} {ts : Array TypeId} (hf : P.funcs[f]? = some fn) (hname : (fn.name == "runtime.NumGoroutine") = false) (hb : fn.body.isSome = true) (args cap all : Array Value) (hall : args ++ cap = all)
  (hop : oi.op = .call { callee := .value (.tmp t), args := bs, argTypes := ts }) (hfun : a.eval (.tmp t) = .func (.func f) #[] cap) (hargs : bs.map a.eval = args)
  (h : Calls P f all w fun e w' => ∃ v, e = .returned v ∧ wpList P ops Q rest (a.put N v) w') : wpList P ops Q (oi :: rest) a w := by
 refine wpList_plain hg fun K hK => ?_
 subst hall
 have he := enters_ hf hname hb (args ++ cap) w
 have hrun : (execOp a.eval oi).run P w = .ok (.enter f (args ++ cap)) w := by
  unfold execOp
  simp only [hop, resolve, hfun]
  simp [Deferred.ofValue, invoke, hargs, he]
 unfold Oper.wp
 rw [hrun, Oper.upon_enter]
 refine h.mono fun e w'' hh => ?_
 obtain ⟨v, rfl, hk⟩ := hh
 subst hd
 exact hK _ _ hk
end
def outQ.f (q : Int) (f0 : Int) (f1 : List Int) : Option Int := if 0 ≤ q ∧ q < f1.length then some (rd f1 q) else none
set_option maxHeartbeats 8000000 in
set_option maxRecDepth 100000 in
theorem outQ145.calls (q f0 : Int) (A : Option Addr) (c : Nat) (l : List Int) (p : Addr) (r : Int) (w : World) (hr : Kd.C (Kd.int .i64) w A l.length l) (hc : l.length ≤ c) (hp : w.cell? p = some (.int .i64 q)) (h : outQ.f q f0 l = some r) :
  Calls Tryz.prog 145 #[.agg #[.int .i64 f0, .slice A l.length c], .pointer (some p)] w fun e w' => e = .returned (.int .i64 r) ∧ Below w.heap.size w w' := by
 have hu156 := Tryz.underlying156
 have HB := Aside0.mk (Below.refl w.heap.size w)
 unfold outQ.f at h
 split at h
 case isFalse => cases h
 rename_i hq
 obtain ⟨h0, h1⟩ := hq
 obtain rfl := Option.some.inj h
 clear h
 obtain ⟨ad, rfl, hx⟩ := Kd.at_int hr q h0 h1
 have hw := Aside0.mk (World.block_lt_of_cell? w _ hx)
 have hw2 := Aside0.mk (World.block_lt_of_cell? w _ hp)
 have hxA := Aside0.mk hx
 have hpA := Aside0.mk hp
 clear hx hp
 have b0 := eq_true h0
 have b1 := eq_true h1
 go_enter Tryz.func145, Tryz.ntmps145
 go_wp2_with (first | ((with_reducible refine gate_dst (N := 2) rfl ?_); refine box_event ?hg (N := 2) ?hd (cs := #[.int .i64 f0, .slice (some ad) l.length c]) (t := 156) ?hr ?_; (case hd => rfl); (case hg => rfl); (case hr => first | (go_simp; done) | (go_simp; rfl)); intro gb101 hg w2 hbox hb; have n0_ := Aside0.mk (below_step (ws_ HB.out) hb); have n1_ := Aside0.mk (hbox); have n2_ := Aside0.mk ((by rw [hg]; exact (below_size (ws_ HB.out)) : w.heap.size ≤ gb101)); have n3_ := Aside0.mk ((by rw [hg]; exact (below_size (ws_ HB.out)) : w.heap.size ≤ gb101)); clear HB; have HB := n0_; have BK101 := n1_; have GW101 := n2_; have GE101 := n3_; clear n0_ n1_ n2_ n3_; clear hb hbox hg; have hcz3_0 : w2.cell? ⟨gb101, 0, none⟩ = some (.int .i64 f0) := (blk_cell BK101.out 0).trans rfl; have hcz3_1 : w2.cell? ⟨gb101, 1, none⟩ = some (.slice (some ad) l.length c) := (blk_cell BK101.out 1).trans rfl; have hfz3_0 := blk_frozen BK101.out 0; have hfz3_1 := blk_frozen BK101.out 1; have hx2 := (HB.out.cell hw.out).trans hxA.out; have hp2 := (HB.out.cell hw2.out).trans hpA.out))
 go_ret
 exact ⟨by first | rfl | (simp; done) | (simp [*]; done), by repeat (first | (with_reducible first | exact HB.out | apply below_alloc | apply pw_below_drewN | apply below_drew1 | refine below_set ?_ GE101.out) | exact HB.out)⟩
set_option maxHeartbeats 8000000 in
set_option maxRecDepth 100000 in
theorem outQ119.calls (q f0 : Int) (A : Option Addr) (c : Nat) (l : List Int) (p : Addr) (r : Int) (w : World) (hr : Kd.C (Kd.int .i64) w A l.length l) (hc : l.length ≤ c) (hp : w.cell? p = some (.int .i64 q)) (h : outQ.f q f0 l = some r) :
  Calls Tryz.prog 119 #[.agg #[.int .i64 f0, .slice A l.length c], .pointer (some p)] w fun e w' => e = .returned (.int .i64 r) ∧ Below w.heap.size w w' := by
 have hu156 := Tryz.underlying156
 have HB := Aside0.mk (Below.refl w.heap.size w)
 unfold outQ.f at h
 split at h
 case isFalse => cases h
 rename_i hq
 obtain ⟨h0, h1⟩ := hq
 obtain rfl := Option.some.inj h
 clear h
 obtain ⟨ad, rfl, hx⟩ := Kd.at_int hr q h0 h1
 have hw := Aside0.mk (World.block_lt_of_cell? w _ hx)
 have hw2 := Aside0.mk (World.block_lt_of_cell? w _ hp)
 have hxA := Aside0.mk hx
 have hpA := Aside0.mk hp
 clear hx hp
 have b0 := eq_true h0
 have b1 := eq_true h1
 go_enter Tryz.func119, Tryz.ntmps119
 go_wp2_with (first | ((with_reducible refine gate_dst (N := 2) rfl ?_); refine box_event ?hg (N := 2) ?hd (cs := #[.int .i64 f0, .slice (some ad) l.length c]) (t := 156) ?hr ?_; (case hd => rfl); (case hg => rfl); (case hr => first | (go_simp; done) | (go_simp; rfl)); intro gb101 hg w2 hbox hb; have n0_ := Aside0.mk (below_step (ws_ HB.out) hb); have n1_ := Aside0.mk (hbox); have n2_ := Aside0.mk ((by rw [hg]; exact (below_size (ws_ HB.out)) : w.heap.size ≤ gb101)); have n3_ := Aside0.mk ((by rw [hg]; exact (below_size (ws_ HB.out)) : w.heap.size ≤ gb101)); clear HB; have HB := n0_; have BK101 := n1_; have GW101 := n2_; have GE101 := n3_; clear n0_ n1_ n2_ n3_; clear hb hbox hg; have hcz3_0 : w2.cell? ⟨gb101, 0, none⟩ = some (.int .i64 f0) := (blk_cell BK101.out 0).trans rfl; have hcz3_1 : w2.cell? ⟨gb101, 1, none⟩ = some (.slice (some ad) l.length c) := (blk_cell BK101.out 1).trans rfl; have hfz3_0 := blk_frozen BK101.out 0; have hfz3_1 := blk_frozen BK101.out 1; have hx2 := (HB.out.cell hw.out).trans hxA.out; have hp2 := (HB.out.cell hw2.out).trans hpA.out))
 go_ret
 exact ⟨by first | rfl | (simp; done) | (simp [*]; done), by repeat (first | (with_reducible first | exact HB.out | apply below_alloc | apply pw_below_drewN | apply below_drew1 | refine below_set ?_ GE101.out) | exact HB.out)⟩
/-! ### mapQ145: function 118 -/
def mapQ145.l0 (q : Int) : Nat → List Int → List (S156) → Int → Int → Option (List Int)
 | 0, _, _, _, _ => none
 | k + 1, x5, x8, x9, x10 => if x10 < x9 then (if 0 ≤ x10 then (if x10 < (x8.length : Int) then ((outQ.f q ((rd_T156 x8 x10).f0) ((rd_T156 x8 x10).f1)).bind fun t103 => (if x5.length < 17592186044416 then (mapQ145.l0 q k (x5 ++ [t103]) x8 x9 (wrap64 (x10 + 1))) else (none))) else (none)) else (none)) else (some x5)
def mapQ145.f (k : Nat) (l0 : List (S156)) (q : Int) : Option (List Int) := mapQ145.l0 q k ([] : List Int) l0 (l0.length : Int) 0
set_option maxHeartbeats 8000000 in
set_option maxRecDepth 100000 in
theorem mapQ145.calls (k : Nat) (A0 : Option Addr) (c0 : Nat) (l0 : List (S156)) (q : Int) (p : Addr) (r : List Int) (w : World) (hp : w.cell? p = some (.int .i64 q)) (hr0 : Kd.C k156 w A0 l0.length l0) (hc0 : l0.length ≤ c0) (h : mapQ145.f k l0 q = some r) :
  Calls Tryz.prog 118 #[.slice A0 l0.length c0, .func (.func 145) #[] #[.pointer (some p)]] w fun e w' => ∃ v0_ : Value, e = .returned (v0_) ∧ Kd.R (Kd.int .i64) 3 w' w.heap.size (fun _ => True) v0_ r ∧ Below w.heap.size w w' := by
 have hu156 := Tryz.underlying156
 have HR0 := Aside0.mk hr0
 have HP := Aside0.mk hp
 have HPl := Aside0.mk (World.block_lt_of_cell? w _ hp)
 clear hp
 have HC0 := Aside0.mk hc0
 clear hr0 hc0
 have HB := Aside0.mk (Below.refl w.heap.size w)
 have H : (mapQ145.l0 q k ([] : List Int) l0 (l0.length : Int) 0) = some r := h
 clear h
 have H' := Aside0.mk H
 clear H
 go_enter Tryz.func118, Tryz.ntmps118
 go_wp2
 go_loopg [5, 10] k (fun kq v5 v10 w' => ∃ (x5_1 : List Int) (x10_1 : Int), v10 = .int .i64 x10_1 ∧ Aside0 (mapQ145.l0 q kq x5_1 l0 (l0.length : Int) x10_1 = some r) ∧ Aside0 (kq ≤ k) ∧ Aside0 (Kd.R (Kd.int .i64) 3 w' w.heap.size (fun _ => True) v5 x5_1) ∧ Aside0 (Below w.heap.size w w'))
 case atStart => exact ⟨(([] : List Int)), (0), (by first | rfl | (simp; done) | (simp [*]; done)), H', ⟨Nat.le_refl _⟩, ⟨by first | exact Kd.R_nil _ _ _ _ _ | exact Kd.N_nil _ _ _ _ _ | exact Kd.V_nil _ _ _ _ _ | exact Kd.Q_nil _ _ _ _ _ | exact Kd.S_nil _ _ _ _ _⟩, ⟨by repeat (first | (with_reducible first | exact HB.out | apply below_alloc | apply pw_below_drewN | apply below_drew1) | exact HB.out)⟩⟩
 case round =>
  clear H'
  try clear c1
  try clear p2
  obtain ⟨x5_1, x10_1, rfl, HA, HK1, HO_5, HB⟩ := hrel
  cases gk with
  | zero => exact absurd HA.out (by simp [mapQ145.l0])
  | succ k1 =>
   have H := HA.out
   clear HA
   simp only [mapQ145.l0] at H
   by_cases c3 : x10_1 < (l0.length : Int)
   ·rw [if_pos c3] at H
    have c3b0 : decide (x10_1 < (l0.length : Int)) = true := decide_eq_true c3
    clear c3
    by_cases c4 : 0 ≤ x10_1
    ·rw [if_pos c4] at H
     have c4b0 : decide (0 ≤ x10_1) = true := decide_eq_true c4
     clear c4
     by_cases c5 : x10_1 < (l0.length : Int)
     ·rw [if_pos c5] at H
      have c5b0 : decide (x10_1 < (l0.length : Int)) = true := decide_eq_true c5
      clear c5
      replace H := Option.bind_eq_some_iff.mp H
      obtain ⟨t103, A60, H⟩ := H
      replace H : (if x5_1.length < 17592186044416 then (mapQ145.l0 q k1 (x5_1 ++ [t103]) l0 (l0.length : Int) (wrap64 (x10_1 + 1))) else (none)) = some r := H
      have A6 := Aside0.mk A60
      clear A60
      by_cases c7 : x5_1.length < 17592186044416
      ·rw [if_pos c7] at H
       have LMc7 := Aside0.mk c7
       clear c7
       obtain ⟨y104, hy104⟩ : ∃ y_ : List Int, y_ = (x5_1 ++ [t103]) := ⟨_, rfl⟩
       replace H : (mapQ145.l0 q k1 y104 l0 (l0.length : Int) (wrap64 (x10_1 + 1))) = some r := by first | (rw [hy104]; with_reducible exact H) | (have H2_ := (Option.bind_some _ _).symm.trans H; rw [hy104]; with_reducible exact H2_) | (have H2_ := (Option.bind_some _ _).symm.trans H; with_reducible exact H2_) | with_reducible exact H | (rw [hy104]; exact H) | exact H
       have Ny104 := Aside0.mk hy104
       clear hy104
       have H' := Aside0.mk H
       clear H
       have p101 : 0 ≤ (x10_1 : Int) := of_decide_eq_true (by first | (with_reducible assumption) | assumption)
       have q101 : x10_1 < (l0.length : Int) := of_decide_eq_true (by first | (with_reducible assumption) | assumption)
       obtain ⟨ad101, A101_1, c101_1, e101, hx101_0, hx101_1, hl101_1, hi101_1⟩ := at_T156 HR0.out x10_1 p101 q101
       cases e101
       replace hx101_0 := (HB.out.cell (World.block_lt_of_cell? w _ hx101_0)).trans hx101_0
       replace hx101_1 := (HB.out.cell (World.block_lt_of_cell? w _ hx101_1)).trans hx101_1
       have HR101_1 := Aside0.mk hi101_1
       have HC101_1 := Aside0.mk hl101_1
       clear hi101_1 hl101_1
       replace p101 := eq_true p101
       replace q101 := eq_true q101
       go_wp2_with (first | ((with_reducible refine gate_dst (N := 7) rfl ?_); refine box_event ?hg (N := 7) ?hd (cs := #[.int .i64 0, .slice none 0 0]) (t := 156) ?hr ?_; (case hd => rfl); (case hg => rfl); (case hr => first | (go_simp; done) | (go_simp; rfl)); intro gb102 hg w8 hbox hb; have n0_ := Aside0.mk (Kd.R_below (rs_ HO_5.out) hb); have n1_ := Aside0.mk (below_step (ws_ HB.out) hb); have n2_ := Aside0.mk (hbox); have n3_ := Aside0.mk ((by rw [hg]; exact (below_size (ws_ HB.out)) : w.heap.size ≤ gb102)); have n4_ := Aside0.mk ((by rw [hg]; exact (below_size (ws_ HB.out)) : w.heap.size ≤ gb102)); clear HO_5; clear HB; have HO_5 := n0_; have HB := n1_; have BK102 := n2_; have GW102 := n3_; have GE102 := n4_; clear n0_ n1_ n2_ n3_ n4_; clear hb hbox hg; have hcz9_0 : w8.cell? ⟨gb102, 0, none⟩ = some (.int .i64 0) := (blk_cell BK102.out 0).trans rfl; have hcz9_1 : w8.cell? ⟨gb102, 1, none⟩ = some (.slice none 0 0) := (blk_cell BK102.out 1).trans rfl; have hfz9_0 := blk_frozen BK102.out 0; have hfz9_1 := blk_frozen BK102.out 1) | ((with_reducible refine gate_calleeT (t := 15) rfl ?_); refine goesTB_ (some 17) rfl rfl Tryz.func145 (by kernel_rfl) rfl #[.agg #[.int .i64 ((rd_T156 l0 x10_1).f0), .slice A101_1 ((rd_T156 l0 x10_1).f1).length c101_1]] #[.pointer (some p)] #[.agg #[.int .i64 ((rd_T156 l0 x10_1).f0), .slice A101_1 ((rd_T156 l0 x10_1).f1).length c101_1], .pointer (some p)] rfl rfl rfl (by (try simp only [List.map_toArray, List.map_cons, List.map_nil]); first | done | rfl | (simp only [List.length_drop, List.length_take]; rfl)) ?_; (with_reducible refine (outQ145.calls q ((rd_T156 l0 x10_1).f0) _ _ ((rd_T156 l0 x10_1).f1) p t103 _ ?side1 ?side2 ?side3 A6.out).mono ?_); (case side1 => exact Kd.C_below HR101_1.out (wg_ HB.out GE102.out)); (case side3 => exact (Below.cell (wg_ HB.out GE102.out) HPl.out).trans HP.out); (case side2 => exact HC101_1.out); rintro e w10 ⟨rfl, hb⟩; refine ⟨_, rfl, ?_⟩; have n0_ := Aside0.mk (Kd.R_below (by (with_reducible repeat (first | apply Kd.R_alloc | apply Kd.R_drewN | apply Kd.R_drew)); exact (Kd.R_mono (Kd.R_far (p := ⟨gb102, 1, none⟩) (Kd.R_far (p := ⟨gb102, 0, none⟩) (Kd.R_types HO_5.out BK102.out (by decide)) (fun _ hk => hk.2) (.int .i64 ((rd_T156 l0 x10_1).f0))) (fun _ hk => hk.2) (.slice A101_1 ((rd_T156 l0 x10_1).f1).length c101_1)) (fun _ h_ => h_.1))) hb); have n1_ := Aside0.mk (blk_below (g := gb102) (o := .cells #[.int .i64 ((rd_T156 l0 x10_1).f0), .slice A101_1 ((rd_T156 l0 x10_1).f1).length c101_1] 156 (0, 0)) (by (with_reducible repeat (first | refine blk_drewN ?_ _ | refine blk_drew ?_ | refine blk_alloc ?_ _)); refine blk_put (cs := #[.int .i64 ((rd_T156 l0 x10_1).f0), .slice none 0 0]) ?_ 1 _ rfl; (with_reducible repeat (first | refine blk_drewN ?_ _ | refine blk_drew ?_ | refine blk_alloc ?_ _)); refine blk_put (cs := #[.int .i64 0, .slice none 0 0]) ?_ 0 _ rfl; (with_reducible repeat (first | refine blk_drewN ?_ _ | refine blk_drew ?_ | refine blk_alloc ?_ _)); exact BK102.out) hb); have n2_ := Aside0.mk (below_step (wg_ HB.out GE102.out) hb); clear HO_5; clear BK102; clear HB; have HO_5 := n0_; have BK102 := n1_; have HB := n2_; clear n0_ n1_ n2_; (try clear hb); (try clear hb2); (try clear hk); (try clear hi)) | ((with_reducible refine gate_builtin (b := .append) (xs := #[.tmp 14, .tmp 18]) rfl ?_); at_builtin; refine Kd.R_append (Kd.int .i64) (w0 := w) w.heap.size rfl (.tmp 14) (.tmp 18) 52 3 (.int .i64 0) 8 rfl Tryz.underlying52 info3 rfl (by decide) (by omega) u5 x5_1 t103 [.int .i64 t103] (fun _ => True) (fun _ => False) rfl rfl ?aP (fun _ hk => hk.elim) ?aF ?aO ?aB ?aS ?aL ?_; (case aP => exact rfl); (case aB => exact (wg_ HB.out GE102.out)); (case aF => exact (fun _ _ => trivial)); (case aO => exact (rs_ HO_5.out)); (case aS => exact (below_size (wg_ HB.out GE102.out))); (case aL => have := LMc7.out; omega); intro v105 w11 ho hb hg hat; rw [← Ny104.out] at ho; have n0_ := Aside0.mk (blk_grown (g := gb102) (o := .cells #[.int .i64 ((rd_T156 l0 x10_1).f0), .slice A101_1 ((rd_T156 l0 x10_1).f1).length c101_1] 156 (0, 0)) (bs_ BK102.out) hg (Kd.R_ne HO_5.out BK102.out (by decide))); have n1_ := Aside0.mk (hb); have n2_ := Aside0.mk (ho); clear BK102; clear HB; clear HO_5; have BK102 := n0_; have HB := n1_; have HO106 := n2_; clear n0_ n1_ n2_; clear ho hb hg hat))
       go_roundg k1
       case measure => have := HK1.out; omega
       case rel => exact ⟨(y104), (wrap64 (x10_1 + 1)), (by first | rfl | (simp; done) | (simp [*]; done)), H', ⟨by have := HK1.out; omega⟩, ⟨by (with_reducible repeat (first | apply Kd.R_alloc | apply Kd.R_drewN | apply Kd.R_drew)); exact HO106.out⟩, ⟨by repeat (first | (with_reducible first | exact HB.out | apply below_alloc | apply pw_below_drewN | apply below_drew1 | refine below_set ?_ GE102.out) | exact HB.out)⟩⟩
      ·rw [if_neg c7] at H
       exact absurd H (by simp)
     ·rw [if_neg c5] at H
      exact absurd H (by simp)
    ·rw [if_neg c4] at H
     exact absurd H (by simp)
   ·rw [if_neg c3] at H
    have c3b0 : decide (x10_1 < (l0.length : Int)) = false := decide_eq_false c3
    clear c3
    obtain rfl := Option.some.inj H
    go_wp2
    go_ret
    exact ⟨_, by first | rfl | (simp [errW_none, errW_some] <;> rfl) | (simp [*, errW_none, errW_some] <;> rfl), by (with_reducible repeat (first | apply Kd.R_alloc | apply Kd.R_drewN | apply Kd.R_drew)); exact HO_5.out, by repeat (first | (with_reducible first | exact HB.out | apply below_alloc | apply pw_below_drewN | apply below_drew1) | exact HB.out)⟩
/-! ### mapQ119: function 118 -/
def mapQ119.l0 (q : Int) : Nat → List Int → List (S156) → Int → Int → Option (List Int)
 | 0, _, _, _, _ => none
 | k + 1, x5, x8, x9, x10 => if x10 < x9 then (if 0 ≤ x10 then (if x10 < (x8.length : Int) then ((outQ.f q ((rd_T156 x8 x10).f0) ((rd_T156 x8 x10).f1)).bind fun t103 => (if x5.length < 17592186044416 then (mapQ119.l0 q k (x5 ++ [t103]) x8 x9 (wrap64 (x10 + 1))) else (none))) else (none)) else (none)) else (some x5)
def mapQ119.f (k : Nat) (l0 : List (S156)) (q : Int) : Option (List Int) := mapQ119.l0 q k ([] : List Int) l0 (l0.length : Int) 0
set_option maxHeartbeats 8000000 in
set_option maxRecDepth 100000 in
theorem mapQ119.calls (k : Nat) (A0 : Option Addr) (c0 : Nat) (l0 : List (S156)) (q : Int) (p : Addr) (r : List Int) (w : World) (hp : w.cell? p = some (.int .i64 q)) (hr0 : Kd.C k156 w A0 l0.length l0) (hc0 : l0.length ≤ c0) (h : mapQ119.f k l0 q = some r) :
  Calls Tryz.prog 118 #[.slice A0 l0.length c0, .func (.func 119) #[] #[.pointer (some p)]] w fun e w' => ∃ v0_ : Value, e = .returned (v0_) ∧ Kd.R (Kd.int .i64) 3 w' w.heap.size (fun _ => True) v0_ r ∧ Below w.heap.size w w' := by
 have hu156 := Tryz.underlying156
 have HR0 := Aside0.mk hr0
 have HP := Aside0.mk hp
 have HPl := Aside0.mk (World.block_lt_of_cell? w _ hp)
 clear hp
 have HC0 := Aside0.mk hc0
 clear hr0 hc0
 have HB := Aside0.mk (Below.refl w.heap.size w)
 have H : (mapQ119.l0 q k ([] : List Int) l0 (l0.length : Int) 0) = some r := h
 clear h
 have H' := Aside0.mk H
 clear H
 go_enter Tryz.func118, Tryz.ntmps118
 go_wp2
 go_loopg [5, 10] k (fun kq v5 v10 w' => ∃ (x5_1 : List Int) (x10_1 : Int), v10 = .int .i64 x10_1 ∧ Aside0 (mapQ119.l0 q kq x5_1 l0 (l0.length : Int) x10_1 = some r) ∧ Aside0 (kq ≤ k) ∧ Aside0 (Kd.R (Kd.int .i64) 3 w' w.heap.size (fun _ => True) v5 x5_1) ∧ Aside0 (Below w.heap.size w w'))
 case atStart => exact ⟨(([] : List Int)), (0), (by first | rfl | (simp; done) | (simp [*]; done)), H', ⟨Nat.le_refl _⟩, ⟨by first | exact Kd.R_nil _ _ _ _ _ | exact Kd.N_nil _ _ _ _ _ | exact Kd.V_nil _ _ _ _ _ | exact Kd.Q_nil _ _ _ _ _ | exact Kd.S_nil _ _ _ _ _⟩, ⟨by repeat (first | (with_reducible first | exact HB.out | apply below_alloc | apply pw_below_drewN | apply below_drew1) | exact HB.out)⟩⟩
 case round =>
  clear H'
  try clear c1
  try clear p2
  obtain ⟨x5_1, x10_1, rfl, HA, HK1, HO_5, HB⟩ := hrel
  cases gk with
  | zero => exact absurd HA.out (by simp [mapQ119.l0])
  | succ k1 =>
   have H := HA.out
   clear HA
   simp only [mapQ119.l0] at H
   by_cases c3 : x10_1 < (l0.length : Int)
   ·rw [if_pos c3] at H
    have c3b0 : decide (x10_1 < (l0.length : Int)) = true := decide_eq_true c3
    clear c3
    by_cases c4 : 0 ≤ x10_1
    ·rw [if_pos c4] at H
     have c4b0 : decide (0 ≤ x10_1) = true := decide_eq_true c4
     clear c4
     by_cases c5 : x10_1 < (l0.length : Int)
     ·rw [if_pos c5] at H
      have c5b0 : decide (x10_1 < (l0.length : Int)) = true := decide_eq_true c5
      clear c5
      replace H := Option.bind_eq_some_iff.mp H
      obtain ⟨t103, A60, H⟩ := H
      replace H : (if x5_1.length < 17592186044416 then (mapQ119.l0 q k1 (x5_1 ++ [t103]) l0 (l0.length : Int) (wrap64 (x10_1 + 1))) else (none)) = some r := H
      have A6 := Aside0.mk A60
      clear A60
      by_cases c7 : x5_1.length < 17592186044416
      ·rw [if_pos c7] at H
       have LMc7 := Aside0.mk c7
       clear c7
       obtain ⟨y104, hy104⟩ : ∃ y_ : List Int, y_ = (x5_1 ++ [t103]) := ⟨_, rfl⟩
       replace H : (mapQ119.l0 q k1 y104 l0 (l0.length : Int) (wrap64 (x10_1 + 1))) = some r := by first | (rw [hy104]; with_reducible exact H) | (have H2_ := (Option.bind_some _ _).symm.trans H; rw [hy104]; with_reducible exact H2_) | (have H2_ := (Option.bind_some _ _).symm.trans H; with_reducible exact H2_) | with_reducible exact H | (rw [hy104]; exact H) | exact H
       have Ny104 := Aside0.mk hy104
       clear hy104
       have H' := Aside0.mk H
       clear H
       have p101 : 0 ≤ (x10_1 : Int) := of_decide_eq_true (by first | (with_reducible assumption) | assumption)
       have q101 : x10_1 < (l0.length : Int) := of_decide_eq_true (by first | (with_reducible assumption) | assumption)
       obtain ⟨ad101, A101_1, c101_1, e101, hx101_0, hx101_1, hl101_1, hi101_1⟩ := at_T156 HR0.out x10_1 p101 q101
       cases e101
       replace hx101_0 := (HB.out.cell (World.block_lt_of_cell? w _ hx101_0)).trans hx101_0
       replace hx101_1 := (HB.out.cell (World.block_lt_of_cell? w _ hx101_1)).trans hx101_1
       have HR101_1 := Aside0.mk hi101_1
       have HC101_1 := Aside0.mk hl101_1
       clear hi101_1 hl101_1
       replace p101 := eq_true p101
       replace q101 := eq_true q101
       go_wp2_with (first | ((with_reducible refine gate_dst (N := 7) rfl ?_); refine box_event ?hg (N := 7) ?hd (cs := #[.int .i64 0, .slice none 0 0]) (t := 156) ?hr ?_; (case hd => rfl); (case hg => rfl); (case hr => first | (go_simp; done) | (go_simp; rfl)); intro gb102 hg w8 hbox hb; have n0_ := Aside0.mk (Kd.R_below (rs_ HO_5.out) hb); have n1_ := Aside0.mk (below_step (ws_ HB.out) hb); have n2_ := Aside0.mk (hbox); have n3_ := Aside0.mk ((by rw [hg]; exact (below_size (ws_ HB.out)) : w.heap.size ≤ gb102)); have n4_ := Aside0.mk ((by rw [hg]; exact (below_size (ws_ HB.out)) : w.heap.size ≤ gb102)); clear HO_5; clear HB; have HO_5 := n0_; have HB := n1_; have BK102 := n2_; have GW102 := n3_; have GE102 := n4_; clear n0_ n1_ n2_ n3_ n4_; clear hb hbox hg; have hcz9_0 : w8.cell? ⟨gb102, 0, none⟩ = some (.int .i64 0) := (blk_cell BK102.out 0).trans rfl; have hcz9_1 : w8.cell? ⟨gb102, 1, none⟩ = some (.slice none 0 0) := (blk_cell BK102.out 1).trans rfl; have hfz9_0 := blk_frozen BK102.out 0; have hfz9_1 := blk_frozen BK102.out 1) | ((with_reducible refine gate_calleeT (t := 15) rfl ?_); refine goesTB_ (some 17) rfl rfl Tryz.func119 (by kernel_rfl) rfl #[.agg #[.int .i64 ((rd_T156 l0 x10_1).f0), .slice A101_1 ((rd_T156 l0 x10_1).f1).length c101_1]] #[.pointer (some p)] #[.agg #[.int .i64 ((rd_T156 l0 x10_1).f0), .slice A101_1 ((rd_T156 l0 x10_1).f1).length c101_1], .pointer (some p)] rfl rfl rfl (by (try simp only [List.map_toArray, List.map_cons, List.map_nil]); first | done | rfl | (simp only [List.length_drop, List.length_take]; rfl)) ?_; (with_reducible refine (outQ119.calls q ((rd_T156 l0 x10_1).f0) _ _ ((rd_T156 l0 x10_1).f1) p t103 _ ?side1 ?side2 ?side3 A6.out).mono ?_); (case side1 => exact Kd.C_below HR101_1.out (wg_ HB.out GE102.out)); (case side3 => exact (Below.cell (wg_ HB.out GE102.out) HPl.out).trans HP.out); (case side2 => exact HC101_1.out); rintro e w10 ⟨rfl, hb⟩; refine ⟨_, rfl, ?_⟩; have n0_ := Aside0.mk (Kd.R_below (by (with_reducible repeat (first | apply Kd.R_alloc | apply Kd.R_drewN | apply Kd.R_drew)); exact (Kd.R_mono (Kd.R_far (p := ⟨gb102, 1, none⟩) (Kd.R_far (p := ⟨gb102, 0, none⟩) (Kd.R_types HO_5.out BK102.out (by decide)) (fun _ hk => hk.2) (.int .i64 ((rd_T156 l0 x10_1).f0))) (fun _ hk => hk.2) (.slice A101_1 ((rd_T156 l0 x10_1).f1).length c101_1)) (fun _ h_ => h_.1))) hb); have n1_ := Aside0.mk (blk_below (g := gb102) (o := .cells #[.int .i64 ((rd_T156 l0 x10_1).f0), .slice A101_1 ((rd_T156 l0 x10_1).f1).length c101_1] 156 (0, 0)) (by (with_reducible repeat (first | refine blk_drewN ?_ _ | refine blk_drew ?_ | refine blk_alloc ?_ _)); refine blk_put (cs := #[.int .i64 ((rd_T156 l0 x10_1).f0), .slice none 0 0]) ?_ 1 _ rfl; (with_reducible repeat (first | refine blk_drewN ?_ _ | refine blk_drew ?_ | refine blk_alloc ?_ _)); refine blk_put (cs := #[.int .i64 0, .slice none 0 0]) ?_ 0 _ rfl; (with_reducible repeat (first | refine blk_drewN ?_ _ | refine blk_drew ?_ | refine blk_alloc ?_ _)); exact BK102.out) hb); have n2_ := Aside0.mk (below_step (wg_ HB.out GE102.out) hb); clear HO_5; clear BK102; clear HB; have HO_5 := n0_; have BK102 := n1_; have HB := n2_; clear n0_ n1_ n2_; (try clear hb); (try clear hb2); (try clear hk); (try clear hi)) | ((with_reducible refine gate_builtin (b := .append) (xs := #[.tmp 14, .tmp 18]) rfl ?_); at_builtin; refine Kd.R_append (Kd.int .i64) (w0 := w) w.heap.size rfl (.tmp 14) (.tmp 18) 52 3 (.int .i64 0) 8 rfl Tryz.underlying52 info3 rfl (by decide) (by omega) u5 x5_1 t103 [.int .i64 t103] (fun _ => True) (fun _ => False) rfl rfl ?aP (fun _ hk => hk.elim) ?aF ?aO ?aB ?aS ?aL ?_; (case aP => exact rfl); (case aB => exact (wg_ HB.out GE102.out)); (case aF => exact (fun _ _ => trivial)); (case aO => exact (rs_ HO_5.out)); (case aS => exact (below_size (wg_ HB.out GE102.out))); (case aL => have := LMc7.out; omega); intro v105 w11 ho hb hg hat; rw [← Ny104.out] at ho; have n0_ := Aside0.mk (blk_grown (g := gb102) (o := .cells #[.int .i64 ((rd_T156 l0 x10_1).f0), .slice A101_1 ((rd_T156 l0 x10_1).f1).length c101_1] 156 (0, 0)) (bs_ BK102.out) hg (Kd.R_ne HO_5.out BK102.out (by decide))); have n1_ := Aside0.mk (hb); have n2_ := Aside0.mk (ho); clear BK102; clear HB; clear HO_5; have BK102 := n0_; have HB := n1_; have HO106 := n2_; clear n0_ n1_ n2_; clear ho hb hg hat))
       go_roundg k1
       case measure => have := HK1.out; omega
       case rel => exact ⟨(y104), (wrap64 (x10_1 + 1)), (by first | rfl | (simp; done) | (simp [*]; done)), H', ⟨by have := HK1.out; omega⟩, ⟨by (with_reducible repeat (first | apply Kd.R_alloc | apply Kd.R_drewN | apply Kd.R_drew)); exact HO106.out⟩, ⟨by repeat (first | (with_reducible first | exact HB.out | apply below_alloc | apply pw_below_drewN | apply below_drew1 | refine below_set ?_ GE102.out) | exact HB.out)⟩⟩
      ·rw [if_neg c7] at H
       exact absurd H (by simp)
     ·rw [if_neg c5] at H
      exact absurd H (by simp)
    ·rw [if_neg c4] at H
     exact absurd H (by simp)
   ·rw [if_neg c3] at H
    have c3b0 : decide (x10_1 < (l0.length : Int)) = false := decide_eq_false c3
    clear c3
    obtain rfl := Option.some.inj H
    go_wp2
    go_ret
    exact ⟨_, by first | rfl | (simp [errW_none, errW_some] <;> rfl) | (simp [*, errW_none, errW_some] <;> rfl), by (with_reducible repeat (first | apply Kd.R_alloc | apply Kd.R_drewN | apply Kd.R_drew)); exact HO_5.out, by repeat (first | (with_reducible first | exact HB.out | apply below_alloc | apply pw_below_drewN | apply below_drew1) | exact HB.out)⟩
end Go.Proofs.YtfdlhbdcejlopaaGreatDoor.B
namespace Go.Proofs.YtfdlhbdcejlopaaGreatDoor.B
open Go.RowKit Go.Proofs.YtfdlhbdcejlopaaGreatDoorW.PrintWords Go.Proofs.YtfdlhbdcejlopaaGreatDoorW.PrintLast Go.Proofs.YtfdlhbdcejlopaaGreatDoorW.PrintMore
set_option linter.unusedVariables false
set_option linter.unusedSimpArgs false
def energiesQ (q : Int) (l : List S156) : List Int := l.map fun s => rd s.f1 q
theorem outQ_f (q : Int) (s : S156) (hq : 0 ≤ q) (hs : q < s.f1.length) : outQ.f q s.f0 s.f1 = some (rd s.f1 q) := by
 unfold outQ.f
 rw [if_pos ⟨hq, hs⟩]
theorem mapQ145_l0 (q : Int) (l : List S156) (hq : 0 ≤ q) (hall : ∀ s ∈ l, q < s.f1.length) (hl : l.length < 1099511627776) : ∀ (m k : Nat) (j : Nat) (acc : List Int), l.length - j = m → m < k → j ≤ l.length → acc.length = j → mapQ145.l0 q k acc l (l.length : Int) (j : Int) = some (acc ++ energiesQ q (l.drop j))
 | 0, k + 1, j, acc, hm, _, hj, ha => by
  unfold mapQ145.l0
  rw [if_neg (by omega), List.drop_of_length_le (by omega)]
  simp [energiesQ]
 | m + 1, k + 1, j, acc, hm, hk, hj, ha => by
  unfold mapQ145.l0
  have hjl : j < l.length := by omega
  have hrd : rd_T156 l (j : Int) = l[j] := by simp [rd_T156, List.getD_eq_getElem?_getD, List.getElem?_eq_getElem hjl]
  rw [if_pos (by omega), if_pos (by omega), if_pos (by omega), hrd, outQ_f q _ hq (hall _ (List.getElem_mem hjl))]
  show (if acc.length < 17592186044416 then _ else none) = _
  rw [if_pos (by omega), show wrap64 ((j : Int) + 1) = ((j + 1 : Nat) : Int) from by rw [w64 _ (by omega)]; omega]
  rw [mapQ145_l0 q l hq hall hl m k (j + 1) _ (by omega) (by omega) (by omega) (by simp [ha])]
  rw [List.append_assoc, List.drop_eq_getElem_cons hjl]
  rfl
theorem mapQ145_f (q : Int) (l : List S156) (hq : 0 ≤ q) (hall : ∀ s ∈ l, q < s.f1.length) (hl : l.length < 1099511627776) : mapQ145.f (l.length + 1) l q = some (energiesQ q l) := by
 unfold mapQ145.f
 rw [show (0 : Int) = ((0 : Nat) : Int) from rfl, mapQ145_l0 q l hq hall hl l.length (l.length + 1) 0 [] (by omega) (by omega) (by omega) rfl]
 rfl
def bestStep (q p0 p1 p2 : Int) (l : List S156) (s : Int × Int) (o : Int) : Int × Int := if s.2 < expV q p0 p1 p2 o l then (o, expV q p0 p1 p2 o l) else s
def bestV (q p0 p1 p2 : Int) (l : List S156) : Int := ((isort (energiesQ q l ++ [0])).foldl (bestStep q p0 p1 p2 l) (0, expV q p0 p1 p2 0 l)).1
def market_best.f (l0 : List S156) (a1 a2_0 a2_1 a2_2 : Int) : Option Int :=
 if 0 ≤ a1 ∧ (l0.all fun s => decide (a1 < s.f1.length)) = true ∧ l0.length < 1099511627776 then some (bestV a1 a2_0 a2_1 a2_2 l0) else none
theorem foldl_take_succ {α β : Type} (f : β → α → β) (b : β) (l : List α) (k : Nat) (h : k < l.length) : (l.take (k + 1)).foldl f b = f ((l.take k).foldl f b) l[k] := by
 rw [List.take_succ_eq_append_getElem h, List.foldl_append]
 rfl
set_option maxHeartbeats 4000000 in
set_option maxRecDepth 100000 in
theorem market_best.calls (A0 : Option Addr) (c0 : Nat) (l0 : List S156) (a1 a2_0 a2_1 a2_2 r : Int) (w : World) (hr0 : Kd.C k156 w A0 l0.length l0) (hc0 : l0.length ≤ c0) (h : market_best.f l0 a1 a2_0 a2_1 a2_2 = some r) :
  Calls Tryz.prog 98 #[.slice A0 l0.length c0, .int .i64 a1, .agg #[.int .i64 a2_0, .int .i64 a2_1, .int .i64 a2_2]] w fun e w' => e = .returned (.int .i64 r) ∧ Below w.heap.size w w' := by
 unfold market_best.f at h
 split at h
 case isFalse => cases h
 rename_i hc
 obtain ⟨hq, hall0, hlen⟩ := hc
 have hall : ∀ s ∈ l0, a1 < s.f1.length := fun s hs => by simpa using List.all_eq_true.1 hall0 s hs
 have hR := Aside0.mk (Option.some.inj h)
 clear h
 have hexp : ∀ o, market_expected.f l0 a1 a2_0 a2_1 a2_2 o = some (expV a1 a2_0 a2_1 a2_2 o l0) := fun o => by
  unfold market_expected.f
  rw [if_pos ⟨hq, hall0⟩]
 have HE := Aside0.mk hexp
 have HM := Aside0.mk (mapQ145_f a1 l0 hq hall hlen)
 have HR0 := Aside0.mk hr0
 have HC0 := Aside0.mk hc0
 have HL := Aside0.mk hlen
 obtain ⟨L, hL⟩ : ∃ L, L = isort (energiesQ a1 l0 ++ [0]) := ⟨_, rfl⟩
 have hLl : L.length = l0.length + 1 := by rw [hL, isort_length]; simp [energiesQ]
 have HLA := Aside0.mk hL
 have HLl := Aside0.mk hLl
 clear hr0 hc0 hall0 hall hq hlen hexp hL hLl
 go_enter Tryz.func98, Tryz.ntmps98
 go_wp2_with (first
  | ((with_reducible refine gate_callee (f := 118) rfl ?_)
    have hW1 : Aside0 (Below w.heap.size w ((w.alloc (.cells #[.int .i64 a1] 3)).alloc (.cells #[.int .i64 a2_0, .int .i64 a2_1, .int .i64 a2_2] 31))) := ⟨below_alloc (below_alloc (Below.refl _ _) _) _⟩
    have hq1 : ((w.alloc (.cells #[.int .i64 a1] 3)).alloc (.cells #[.int .i64 a2_0, .int .i64 a2_1, .int .i64 a2_2] 31)).cell? ⟨w.heap.size, 0, none⟩ = some (.int .i64 a1) := by go_simp
    have hp1 : ((w.alloc (.cells #[.int .i64 a1] 3)).alloc (.cells #[.int .i64 a2_0, .int .i64 a2_1, .int .i64 a2_2] 31)).cell? ⟨w.heap.size + 1, 0, none⟩ = some (.int .i64 a2_0) := by go_simp
    have hp2 : ((w.alloc (.cells #[.int .i64 a1] 3)).alloc (.cells #[.int .i64 a2_0, .int .i64 a2_1, .int .i64 a2_2] 31)).cell? ⟨w.heap.size + 1, 1, none⟩ = some (.int .i64 a2_1) := by go_simp
    have hp3 : ((w.alloc (.cells #[.int .i64 a1] 3)).alloc (.cells #[.int .i64 a2_0, .int .i64 a2_1, .int .i64 a2_2] 31)).cell? ⟨w.heap.size + 1, 2, none⟩ = some (.int .i64 a2_2) := by go_simp
    have hsz : ((w.alloc (.cells #[.int .i64 a1] 3)).alloc (.cells #[.int .i64 a2_0, .int .i64 a2_1, .int .i64 a2_2] 31)).heap.size = w.heap.size + 1 + 1 := by simp
    generalize (w.alloc (.cells #[.int .i64 a1] 3)).alloc (.cells #[.int .i64 a2_0, .int .i64 a2_1, .int .i64 a2_2] 31) = W1 at *
    have HSZ := Aside0.mk hsz
    have HCell : Aside0 (W1.cell? ⟨w.heap.size, 0, none⟩ = some (.int .i64 a1) ∧ W1.cell? ⟨w.heap.size + 1, 0, none⟩ = some (.int .i64 a2_0) ∧ W1.cell? ⟨w.heap.size + 1, 1, none⟩ = some (.int .i64 a2_1) ∧ W1.cell? ⟨w.heap.size + 1, 2, none⟩ = some (.int .i64 a2_2)) := ⟨hq1, hp1, hp2, hp3⟩
    have HR1 := Aside0.mk (Kd.C_below HR0.out hW1.out)
    refine goesL_ (some 15) rfl rfl Tryz.func118 (by kernel_rfl) rfl #[.slice A0 l0.length c0, .func (.func 145) #[] #[.pointer (some ⟨w.heap.size, 0, none⟩)]] rfl (by (try simp only [List.map_toArray, List.map_cons, List.map_nil]); first | done | rfl) ?_
    (with_reducible refine (mapQ145.calls (l0.length + 1) _ _ l0 a1 ⟨w.heap.size, 0, none⟩ (energiesQ a1 l0) _ ?side0 ?side1 ?side2 HM.out).mono ?_)
    (case side0 => exact hq1)
    (case side1 => exact HR1.out)
    (case side2 => exact HC0.out)
    rintro e w4 ⟨v102, rfl, ho0, hb⟩
    refine ⟨_, rfl, ?_⟩
    have HO1 := Aside0.mk ho0
    have HB := Aside0.mk hb
    clear ho0 hb hq1 hp1 hp2 hp3 hsz)
  | ((with_reducible refine gate_builtin (b := .append) (xs := #[.tmp 15, .tmp 16]) rfl ?_)
    at_builtin
    refine Kd.R_append (Kd.int .i64) (w0 := W1) W1.heap.size rfl (.tmp 15) (.tmp 16) 52 3 (.int .i64 0) 8 rfl Tryz.underlying52 info3 rfl (by decide) (by omega) v102 (energiesQ a1 l0) 0 [.int .i64 0] (fun _ => True) (fun _ => False) rfl rfl ?aP (fun _ hk => hk.elim) ?aF ?aO ?aB ?aS ?aL ?_
    (case aP => exact rfl)
    (case aB => exact (ws_ HB.out))
    (case aF => exact (fun _ _ => trivial))
    (case aO => exact (rs_ HO1.out))
    (case aS => exact (below_size (ws_ HB.out)))
    (case aL => have := HL.out; simp [energiesQ]; omega)
    intro v103 w5 ho hb hg hat
    have HO2 := Aside0.mk ho
    have HB2 := Aside0.mk hb
    clear HO1 HB
    have HB := HB2
    clear HB2 ho hb hg hat)
  | ((with_reducible refine gate_callee (f := 108) rfl ?_)
    refine goesL_ (some 19) rfl rfl Tryz.func108 (by kernel_rfl) rfl #[v103] rfl (by (try simp only [List.map_toArray, List.map_cons, List.map_nil]); first | done | rfl) ?_
    refine (sort_R HO2.out HB.out (below_size HB.out) (by have := HL.out; simp [energiesQ]; omega)).mono ?_
    rw [← HLA.out]
    rintro e w6 ⟨rfl, ho, hb, hg⟩
    refine ⟨_, rfl, ?_⟩
    have HO3 := Aside0.mk ho
    have HB2 := Aside0.mk hb
    clear HO2 HB
    have HB := HB2
    clear HB2 ho hb hg
    obtain ⟨Ao, co, eo⟩ := Kd.R_slice HO3.out
    subst eo
    have hq1 := (HB.out.cell (World.block_lt_of_cell? _ _ HCell.out.1)).trans HCell.out.1
    have hp1 := (HB.out.cell (World.block_lt_of_cell? _ _ HCell.out.2.1)).trans HCell.out.2.1
    have hp2 := (HB.out.cell (World.block_lt_of_cell? _ _ HCell.out.2.2.1)).trans HCell.out.2.2.1
    have hp3 := (HB.out.cell (World.block_lt_of_cell? _ _ HCell.out.2.2.2)).trans HCell.out.2.2.2)
  | ((with_reducible refine gate_callee (f := 96) rfl ?_)
    refine goesL_ (some 23) rfl rfl Tryz.func96 (by kernel_rfl) rfl #[.slice A0 l0.length c0, .int .i64 a1, .agg #[.int .i64 a2_0, .int .i64 a2_1, .int .i64 a2_2], .int .i64 0] rfl (by (try simp only [List.map_toArray, List.map_cons, List.map_nil]); first | done | rfl) ?_
    (with_reducible refine (market_expected.calls _ _ l0 a1 a2_0 a2_1 a2_2 0 _ _ ?side1 ?side2 (HE.out 0)).mono ?_)
    (case side1 => exact Kd.C_below HR1.out HB.out)
    (case side2 => exact HC0.out)
    rintro e w7 ⟨rfl, hb⟩
    refine ⟨_, rfl, ?_⟩
    have HO4 := Aside0.mk (Kd.R_below HO3.out hb)
    have HB2 := Aside0.mk (below_step HB.out hb)
    clear HO3 HB hq1 hp1 hp2 hp3
    have HB := HB2
    clear HB2 hb))
 go_loopw [8, 9, 26] (fun v8 v9 v26 w' => ∃ (k : Nat) (b m : Int), v26 = .int .i64 (k : Int) ∧ v8 = .int .i64 b ∧ v9 = .int .i64 m ∧ Aside0 (k ≤ L.length) ∧ Aside0 ((L.take k).foldl (bestStep a1 a2_0 a2_1 a2_2 l0) (0, expV a1 a2_0 a2_1 a2_2 0 l0) = (b, m)) ∧ Aside0 (Below W1.heap.size W1 w') ∧ Aside0 ((Kd.int .i64).R 3 w' W1.heap.size (fun _ => True) (.slice Ao L.length co) L)) (fun _ _ v26 _ => L.length - (intOf v26).toNat)
 case atStart => exact ⟨0, 0, _, rfl, rfl, rfl, ⟨Nat.zero_le _⟩, ⟨rfl⟩, HB, HO4⟩
 case round =>
  obtain ⟨k, b, m, rfl, rfl, rfl, HK, HF, HB, HO⟩ := hrel
  by_cases hk : k < L.length
  ·have c0b : decide ((k : Int) < (L.length : Int)) = true := decide_eq_true (by omega)
   obtain ⟨ad, rfl, hx⟩ := Kd.at_int (Kd.R_reads' HO.out).2.2 (k : Int) (by omega) (by omega)
   have hrd : rd L (k : Int) = L[k] := by simp [rd, List.getD_eq_getElem?_getD, List.getElem?_eq_getElem hk]
   rw [hrd, Int.toNat_natCast] at hx
   have hS := foldl_take_succ (bestStep a1 a2_0 a2_1 a2_2 l0) (0, expV a1 a2_0 a2_1 a2_2 0 l0) L k hk
   rw [HF.out] at hS
   obtain ⟨o, ho⟩ : ∃ o, L[k] = o := ⟨_, rfl⟩
   rw [ho] at hx hS
   have HS := Aside0.mk hS
   have hq1 := (HB.out.cell (World.block_lt_of_cell? _ _ HCell.out.1)).trans HCell.out.1
   have hp1 := (HB.out.cell (World.block_lt_of_cell? _ _ HCell.out.2.1)).trans HCell.out.2.1
   have hp2 := (HB.out.cell (World.block_lt_of_cell? _ _ HCell.out.2.2.1)).trans HCell.out.2.2.1
   have hp3 := (HB.out.cell (World.block_lt_of_cell? _ _ HCell.out.2.2.2)).trans HCell.out.2.2.2
   have b0 : (0 ≤ (k : Int)) = True := eq_true (by omega)
   have b1 : ((k : Int) < (L.length : Int)) = True := eq_true (by omega)
   have HK1 := Aside0.mk hk
   have hwr : wrap64 ((k : Int) + 1) = ((k + 1 : Nat) : Int) := by rw [w64 _ (by have := HLl.out; have := HL.out; omega)]; omega
   have HWR := Aside0.mk hwr
   clear hrd ho hS hk hwr
   by_cases hc : m < expV a1 a2_0 a2_1 a2_2 o l0
   ·have c1b : decide (m < expV a1 a2_0 a2_1 a2_2 o l0) = true := decide_eq_true hc
    have HC := Aside0.mk hc
    clear hc
    go_wp2_with (first
     | ((with_reducible refine gate_callee (f := 96) rfl ?_)
       refine goesL_ (some 34) rfl rfl Tryz.func96 (by kernel_rfl) rfl #[.slice A0 l0.length c0, .int .i64 a1, .agg #[.int .i64 a2_0, .int .i64 a2_1, .int .i64 a2_2], .int .i64 o] rfl (by (try simp only [List.map_toArray, List.map_cons, List.map_nil]); first | done | rfl) ?_
       (with_reducible refine (market_expected.calls _ _ l0 a1 a2_0 a2_1 a2_2 o _ _ ?side1 ?side2 (HE.out o)).mono ?_)
       (case side1 => exact Kd.C_below HR1.out HB.out)
       (case side2 => exact HC0.out)
       rintro e w7 ⟨rfl, hb⟩
       refine ⟨_, rfl, ?_⟩
       have HO5 := Aside0.mk (Kd.R_below HO.out hb)
       have HB2 := Aside0.mk (below_step HB.out hb)
       clear HB hq1 hp1 hp2 hp3
       have HB := HB2
       clear HB2 hb))
    go_roundw
    case rel =>
     refine ⟨k + 1, o, expV a1 a2_0 a2_1 a2_2 o l0, ?_, rfl, rfl, ⟨HK1.out⟩, ⟨?_⟩, HB, HO5⟩
     ·with_reducible exact congrArg (Value.int .i64) HWR.out
     ·rw [HS.out]; unfold bestStep; rw [if_pos HC.out]
    case measure =>
     have hk1 := HK1.out
     rw [HWR.out]
     clear HWR
     simp [intOf]
     omega
   ·have c1b : decide (m < expV a1 a2_0 a2_1 a2_2 o l0) = false := decide_eq_false hc
    have HC := Aside0.mk hc
    clear hc
    go_wp2_with (first
     | ((with_reducible refine gate_callee (f := 96) rfl ?_)
       refine goesL_ (some 34) rfl rfl Tryz.func96 (by kernel_rfl) rfl #[.slice A0 l0.length c0, .int .i64 a1, .agg #[.int .i64 a2_0, .int .i64 a2_1, .int .i64 a2_2], .int .i64 o] rfl (by (try simp only [List.map_toArray, List.map_cons, List.map_nil]); first | done | rfl) ?_
       (with_reducible refine (market_expected.calls _ _ l0 a1 a2_0 a2_1 a2_2 o _ _ ?side1 ?side2 (HE.out o)).mono ?_)
       (case side1 => exact Kd.C_below HR1.out HB.out)
       (case side2 => exact HC0.out)
       rintro e w7 ⟨rfl, hb⟩
       refine ⟨_, rfl, ?_⟩
       have HO5 := Aside0.mk (Kd.R_below HO.out hb)
       have HB2 := Aside0.mk (below_step HB.out hb)
       clear HB hq1 hp1 hp2 hp3
       have HB := HB2
       clear HB2 hb))
    go_roundw
    case rel =>
     refine ⟨k + 1, b, m, ?_, rfl, rfl, ⟨HK1.out⟩, ⟨?_⟩, HB, HO5⟩
     ·with_reducible exact congrArg (Value.int .i64) HWR.out
     ·rw [HS.out]; unfold bestStep; rw [if_neg HC.out]
    case measure =>
     have hk1 := HK1.out
     rw [HWR.out]
     clear HWR
     simp [intOf]
     omega
  ·have c0b : decide ((k : Int) < (L.length : Int)) = false := decide_eq_false (by omega)
   have hke : k = L.length := by have := HK.out; omega
   have hF := HF.out
   rw [hke, List.take_of_length_le (Nat.le_refl _)] at hF
   have hr : r = b := by rw [← hR.out]; unfold bestV; rw [← HLA.out, hF]
   clear hF
   have HRb := Aside0.mk hr
   clear hr hke
   go_wp2
   go_ret
   exact ⟨by rw [HRb.out]; rfl, hW1.out.trans (HB.out.mono hW1.out.size)⟩
end Go.Proofs.YtfdlhbdcejlopaaGreatDoor.B
