/- MarketCurtails: the law returns true at every input, and each argument reads behind the call as it read before (condition: the listed tables of Go's library hold what the program's text lays), part 4 of 6. -/
import Derived.Laws.RangeString
import Derived.Laws.RangeAny
import Derived.LoopTactic
import Derived.Test.YtfdlhbdcejlopaaGreatDoorCurt3
namespace Go.Proofs.YtfdlhbdcejlopaaGreatDoor.B
open Go.RowKit Go.Proofs.YtfdlhbdcejlopaaGreatDoorW.PrintWords Go.Proofs.YtfdlhbdcejlopaaGreatDoorW.PrintLast Go.Proofs.YtfdlhbdcejlopaaGreatDoorW.PrintMore
attribute [local go_sem] max2_int min2_int max_two min_two
set_option linter.unusedVariables false
set_option linter.unusedSimpArgs false
/-! ### market_Best: function 29 -/
def market_Best.f (k : Nat) (l0 : List (S156)) (a1 : Int) (a2_0 : Int) (a2_1 : Int) (a2_2 : Int) : Option (Int × Int) := (market_checkQuarter.f k l0 a1).bind fun t102 => ((market_CheckPrices.f k a2_0 a2_1 a2_2).bind fun t103 => ((market_first.f k (([t102, t103] : List Int))).bind fun t107 => (if t107 = 0 then ((market_best.f l0 a1 a2_0 a2_1 a2_2).bind fun t108 => (some (t108, 0))) else (some (0, t107)))))
def market_Best.T1 : Bool × List (List Nat × List Nat) := (true, [([], []), ([], []), ([0, 1], [0, 1]), ([], []), ([3, 2], [3]), ([2, 4], [2, 4]), ([5, 4], [5]), ([6, 6, 0, 1, 2, 3, 4, 5, 6], [6])])
def market_Best.B1 : List Nat := [0, 0, 3, 0, 15, 31, 63, 127]
theorem market_Best.tab1 : rtab .any (opsOf Tryz.f29 1) = market_Best.T1 := by kernel_rfl
theorem market_Best.bits1 : waitsOk market_Best.T1.2 market_Best.B1 = true := by kernel_rfl
set_option maxHeartbeats 8000000 in
set_option maxRecDepth 100000 in
theorem market_Best.calls (k : Nat) (A0 : Option Addr) (c0 : Nat) (l0 : List (S156)) (a1 : Int) (a2_0 : Int) (a2_1 : Int) (a2_2 : Int) (r1 : Int) (r2 : Int) (w : World) (hr0 : Kd.C k156 w A0 l0.length l0) (hc0 : l0.length ≤ c0) (h : market_Best.f k l0 a1 a2_0 a2_1 a2_2 = some (r1, r2)) :
  Calls Tryz.prog 29 #[.slice A0 l0.length c0, .int .i64 a1, .agg #[.int .i64 a2_0, .int .i64 a2_1, .int .i64 a2_2]] w fun e w' => e = .returned (.tuple #[.int .i64 r1, .int .i64 r2]) ∧ Below w.heap.size w w' := by
 have hu31 := Tryz.underlying31
 have HR0 := Aside0.mk hr0
 have HC0 := Aside0.mk hc0
 clear hr0 hc0
 have HB := Aside0.mk (Below.refl w.heap.size w)
 have H : ((market_checkQuarter.f k l0 a1).bind fun t102 => ((market_CheckPrices.f k a2_0 a2_1 a2_2).bind fun t103 => ((market_first.f k (([t102, t103] : List Int))).bind fun t107 => (if t107 = 0 then ((market_best.f l0 a1 a2_0 a2_1 a2_2).bind fun t108 => (some (t108, 0))) else (some (0, t107)))))) = some (r1, r2) := h
 clear h
 replace H := Option.bind_eq_some_iff.mp H
 obtain ⟨t102, A40, H⟩ := H
 replace H : ((market_CheckPrices.f k a2_0 a2_1 a2_2).bind fun t103 => ((market_first.f k (([t102, t103] : List Int))).bind fun t107 => (if t107 = 0 then ((market_best.f l0 a1 a2_0 a2_1 a2_2).bind fun t108 => (some (t108, 0))) else (some (0, t107))))) = some (r1, r2) := H
 have A4 := Aside0.mk A40
 clear A40
 replace H := Option.bind_eq_some_iff.mp H
 obtain ⟨t103, A50, H⟩ := H
 replace H : ((market_first.f k (([t102, t103] : List Int))).bind fun t107 => (if t107 = 0 then ((market_best.f l0 a1 a2_0 a2_1 a2_2).bind fun t108 => (some (t108, 0))) else (some (0, t107)))) = some (r1, r2) := H
 have A5 := Aside0.mk A50
 clear A50
 obtain ⟨y104, hy104⟩ : ∃ y_ : List Int, y_ = (([t102, t103] : List Int)) := ⟨_, rfl⟩
 replace H : ((market_first.f k y104).bind fun t107 => (if t107 = 0 then ((market_best.f l0 a1 a2_0 a2_1 a2_2).bind fun t108 => (some (t108, 0))) else (some (0, t107)))) = some (r1, r2) := by first | (rw [hy104]; with_reducible exact H) | (have H2_ := (Option.bind_some _ _).symm.trans H; rw [hy104]; with_reducible exact H2_) | (have H2_ := (Option.bind_some _ _).symm.trans H; with_reducible exact H2_) | with_reducible exact H | (rw [hy104]; exact H) | exact H
 have Ny104 := Aside0.mk hy104
 clear hy104
 replace H := Option.bind_eq_some_iff.mp H
 obtain ⟨t107, A60, H⟩ := H
 replace H : (if t107 = 0 then ((market_best.f l0 a1 a2_0 a2_1 a2_2).bind fun t108 => (some (t108, 0))) else (some (0, t107))) = some (r1, r2) := H
 have A6 := Aside0.mk A60
 clear A60
 by_cases c7 : t107 = 0
 ·rw [if_pos c7] at H
  have c7b0 : (t107 == 0) = true := beq_iff_eq.mpr c7
  have c7b1 : (t107 != 0) = false := bne_eq_false_iff_eq.mpr c7
  clear c7
  replace H := Option.bind_eq_some_iff.mp H
  obtain ⟨t108, A80, H⟩ := H
  replace H : (some (t108, 0)) = some (r1, r2) := H
  have A8 := Aside0.mk A80
  clear A80
  simp only [Option.some.injEq, Prod.mk.injEq] at H
  obtain ⟨rfl, rfl⟩ := H
  go_enter Tryz.func29, Tryz.ntmps29
  try go_wp2_with (first | ((with_reducible refine gate_dst (N := 5) rfl ?_); refine box_event ?hg (N := 5) ?hd (cs := #[.int .i64 a2_0, .int .i64 a2_1, .int .i64 a2_2]) (t := 31) ?hr ?_; (case hd => rfl); (case hg => rfl); (case hr => first | (go_simp; done) | (go_simp; rfl)); intro gb101 hg w9 hbox hb; have n0_ := Aside0.mk (below_step (ws_ HB.out) hb); have n1_ := Aside0.mk (hbox); have n2_ := Aside0.mk ((by rw [hg]; exact (below_size (ws_ HB.out)) : w.heap.size ≤ gb101)); have n3_ := Aside0.mk ((by rw [hg]; exact (below_size (ws_ HB.out)) : w.heap.size ≤ gb101)); clear HB; have HB := n0_; have BK101 := n1_; have GW101 := n2_; have GE101 := n3_; clear n0_ n1_ n2_ n3_; clear hb hbox hg))
  have n0_ := Aside0.mk (blk_drew BK101.out)
  have n1_ := Aside0.mk (below_drew1 HB.out)
  clear BK101
  clear HB
  have BK101 := n0_
  have HB := n1_
  clear n0_ n1_
  refine start_ (n := 8) (S := fun w' => w'.cell? ⟨gb101, 0, none⟩ = some (.int .i64 a2_0) ∧ w'.cell? ⟨gb101, 1, none⟩ = some (.int .i64 a2_1) ∧ w'.cell? ⟨gb101, 2, none⟩ = some (.int .i64 a2_2)) (ds := []) #[false, false, false, false, false, false, false, false] (by kernel_rfl) rfl rfl ⟨(blk_cell BK101.out 0).trans rfl, (blk_cell BK101.out 1).trans rfl, (blk_cell BK101.out 2).trans rfl⟩ (fun hHeld => ?_); refine with_tabW market_Best.tab1 market_Best.bits1 (fun HT_ HW_ => ?_)
  generalize w9.drew = w10 at BK101 HB hHeld ⊢
  refine pv_ 0 9 #[true, false, false, false, false, false, false, false] (any_of HT_.out (by kernel_rfl)) ?_
  refine pv_ 1 10 #[true, true, false, false, false, false, false, false] (any_of HT_.out (by kernel_rfl)) ?_
  refine take_ (i := 3) (N := some 12) (v := ?_) (a' := ?_) #[true, true, false, true, false, false, false, false] rfl rfl (take_ofW HT_.out HW_.out (by kernel_rfl)) (fun _ _ _ h => h) (Or.inl ⟨by rfl, ?_⟩) hHeld ?_ ?_
  rotate_left
  ·rintro w' ⟨s0, s1, s2⟩
   go_simp
   with_reducible rfl
  rotate_left
  ·simp only [Act.put, List.setIfInBounds_toArray, List.set_cons_zero, List.set_cons_succ, i64_w, i32_w]
   rfl
  refine one_ (i := 2) (N := some 11) #[true, true, true, true, false, false, false, false] rfl rfl (one_of HT_.out (by kernel_rfl)) (by decide) (fun K hK => ?_)
  refine goes_ Tryz.func94 (by kernel_rfl) rfl #[.slice A0 l0.length c0, .int .i64 a1] (by rfl) rfl rfl (by (try simp only [List.map_toArray, List.map_cons, List.map_nil]); first | done | rfl | (simp only [List.length_drop, List.length_take]; rfl)) ?_
  with_reducible refine (market_checkQuarter.calls k _ _ l0 a1 t102 _ ?side1 ?side2 A4.out).mono ?_
  (case side1 => exact cs_ (Kd.C_below HR0.out HB.out))
  (case side2 => exact HC0.out)
  rintro e w11 ⟨rfl, hb⟩
  refine ⟨_, rfl, ?_⟩
  have n0_ := Aside0.mk (blk_below (g := gb101) (o := .cells #[.int .i64 a2_0, .int .i64 a2_1, .int .i64 a2_2] 31 (0, 0)) (bs_ BK101.out) hb)
  have n1_ := Aside0.mk (below_step (wg_ HB.out GE101.out) hb)
  clear BK101
  clear HB
  have BK101 := n0_
  have HB := n1_
  clear n0_ n1_
  (try clear hb)
  (try clear hb2)
  (try clear hk)
  (try clear hi)
  refine hK.out _ _ ⟨(blk_cell BK101.out 0).trans rfl, (blk_cell BK101.out 1).trans rfl, (blk_cell BK101.out 2).trans rfl⟩ (fun hHeld => ?_)
  clear hK K
  refine norm_ (a' := ?_) ?_ ?_
  rotate_left
  ·show Act.put _ (some 11) _ = _
   simp only [Act.put, List.setIfInBounds_toArray, List.set_cons_zero, List.set_cons_succ, i64_w, i32_w]
   rfl
  refine one_ (i := 4) (N := some 13) #[true, true, true, true, true, false, false, false] rfl rfl (one_of HT_.out (by kernel_rfl)) (by decide) (fun K hK => ?_)
  refine goes_ Tryz.func27 (by kernel_rfl) rfl #[.agg #[.int .i64 a2_0, .int .i64 a2_1, .int .i64 a2_2]] (by rfl) rfl rfl (by (try simp only [List.map_toArray, List.map_cons, List.map_nil]); first | done | rfl | (simp only [List.length_drop, List.length_take]; rfl)) ?_
  with_reducible refine (market_CheckPrices.calls k a2_0 a2_1 a2_2 t103 _ A5.out).mono ?_
  rintro e w12 ⟨rfl, hb⟩
  refine ⟨_, rfl, ?_⟩
  have n0_ := Aside0.mk (blk_below (g := gb101) (o := .cells #[.int .i64 a2_0, .int .i64 a2_1, .int .i64 a2_2] 31 (0, 0)) (bs_ BK101.out) hb)
  have n1_ := Aside0.mk (below_step (wg_ HB.out GE101.out) hb)
  clear BK101
  clear HB
  have BK101 := n0_
  have HB := n1_
  clear n0_ n1_
  (try clear hb)
  (try clear hb2)
  (try clear hk)
  (try clear hi)
  refine hK.out _ _ ⟨(blk_cell BK101.out 0).trans rfl, (blk_cell BK101.out 1).trans rfl, (blk_cell BK101.out 2).trans rfl⟩ (fun hHeld => ?_)
  clear hK K
  refine norm_ (a' := ?_) ?_ ?_
  rotate_left
  ·show Act.put _ (some 13) _ = _
   simp only [Act.put, List.setIfInBounds_toArray, List.set_cons_zero, List.set_cons_succ, i64_w, i32_w]
   rfl
  refine one_ (i := 5) (N := some 14) #[true, true, true, true, true, true, false, false] rfl rfl (one_of HT_.out (by kernel_rfl)) (by decide) (fun K hK => ?_)
  refine Kd.R_lit_step (Kd.int .i64) _ 28 ?hg (N := 14) ?hd (xs := ([t102, t103] : List Int)) (inner := [.int .i64 t102, .int .i64 t103]) (ok := fun _ => True) (okp := fun _ => True) ?hr ?hp (fun _ hk => hk) trivial (Below.refl _ _) (Nat.le_refl _) (by simp) ?_; (case hd => rfl); (case hg => rfl); (case hr => first | (go_simp; done) | (go_simp; rfl)); (case hp => exact (Reps.one (show Kd.M (Kd.int .i64) _ _ _ t102 [.int .i64 t102] from rfl) (Reps.one (show Kd.M (Kd.int .i64) _ _ _ t103 [.int .i64 t103] from rfl) (Reps.none _ _))))
  intro v105 w13 ho14 hb hg_ hnew_
  clear hg_ hnew_
  (first | rw [← Ny104.out] at ho14 | (simp only [Int.reduceToNat] at ho14; rw [← Ny104.out] at ho14))
  have n0_ := Aside0.mk (Kd.R_lower ho14 (below_size (wg_ HB.out GE101.out)))
  have n1_ := Aside0.mk (blk_below (g := gb101) (o := .cells #[.int .i64 a2_0, .int .i64 a2_1, .int .i64 a2_2] 31 (0, 0)) (bs_ BK101.out) hb)
  have n2_ := Aside0.mk (below_step (wg_ HB.out GE101.out) hb)
  clear BK101
  clear HB
  have HO106 := n0_
  have BK101 := n1_
  have HB := n2_
  clear n0_ n1_ n2_
  clear hb ho14
  obtain ⟨Ao15, co15, eo15⟩ := Kd.R_slice HO106.out
  (first | subst eo15 | (injection eo15 with f1_ f2_ f3_; have f4_ := f1_.symm; have f5_ := f3_.symm; clear f1_ f2_ f3_; subst f4_; subst f5_))
  refine hK.out _ _ ⟨(blk_cell BK101.out 0).trans rfl, (blk_cell BK101.out 1).trans rfl, (blk_cell BK101.out 2).trans rfl⟩ (fun hHeld => ?_)
  clear hK K
  refine norm_ (a' := ?_) ?_ ?_
  rotate_left
  ·show Act.put _ (some 14) _ = _
   simp only [Act.put, List.setIfInBounds_toArray, List.set_cons_zero, List.set_cons_succ, i64_w, i32_w]
   rfl
  refine one_ (i := 6) (N := some 15) #[true, true, true, true, true, true, true, false] rfl rfl (one_of HT_.out (by kernel_rfl)) (by decide) (fun K hK => ?_)
  refine goes_ Tryz.func85 (by kernel_rfl) rfl #[.slice Ao15 y104.length co15] (by rfl) rfl rfl (by (try simp only [List.map_toArray, List.map_cons, List.map_nil]); first | done | rfl | (simp only [List.length_drop, List.length_take]; rfl)) ?_
  with_reducible refine (market_first.calls k _ _ y104 t107 _ ?side1 ?side2 A6.out).mono ?_
  (case side1 => repeat (first | exact (Kd.R_reads' HO106.out).2.2 | (with_reducible refine Kd.C_alloc ?_ _) | (with_reducible refine Kd.C_drewN ?_ _) | (with_reducible refine Kd.C_drew ?_)))
  (case side2 => exact (Kd.R_reads' HO106.out).2.1)
  rintro e w' ⟨rfl, ⟨nd, rfl⟩⟩
  refine ⟨_, rfl, ?_⟩
  refine hK.out _ _ ⟨(blk_cell BK101.out 0).trans rfl, (blk_cell BK101.out 1).trans rfl, (blk_cell BK101.out 2).trans rfl⟩ (fun hHeld => ?_)
  clear hK K
  refine norm_ (a' := ?_) ?_ ?_
  rotate_left
  ·show Act.put _ (some 15) _ = _
   simp only [Act.put, List.setIfInBounds_toArray, List.set_cons_zero, List.set_cons_succ, i64_w, i32_w]
   rfl
  refine pv_ 7 8 #[true, true, true, true, true, true, true, true] (any_of HT_.out (by kernel_rfl)) ?_
  refine done_ (done_of HT_.out (by kernel_rfl)) ?_
  have hcz16_0 : w13.cell? ⟨gb101, 0, none⟩ = some (.int .i64 a2_0) := (blk_cell BK101.out 0).trans rfl
  have hcz16_1 : w13.cell? ⟨gb101, 1, none⟩ = some (.int .i64 a2_1) := (blk_cell BK101.out 1).trans rfl
  have hcz16_2 : w13.cell? ⟨gb101, 2, none⟩ = some (.int .i64 a2_2) := (blk_cell BK101.out 2).trans rfl
  have hfz16_0 := blk_frozen BK101.out 0
  have hfz16_1 := blk_frozen BK101.out 1
  have hfz16_2 := blk_frozen BK101.out 2
  try go_wp2_with (first | ((with_reducible refine gate_callee (f := 98) rfl ?_); refine gl_ (some 22) Tryz.func98 #[.slice A0 l0.length c0, .int .i64 a1, .agg #[.int .i64 a2_0, .int .i64 a2_1, .int .i64 a2_2]] ?_; (with_reducible refine (market_best.calls _ _ l0 a1 a2_0 a2_1 a2_2 t108 _ ?side1 ?side2 A8.out).mono ?_); (case side1 => repeat (first | exact (Kd.C_below HR0.out (wg_ HB.out GE101.out)) | (with_reducible refine Kd.C_alloc ?_ _) | (with_reducible refine Kd.C_drewN ?_ _) | (with_reducible refine Kd.C_drew ?_))); (case side2 => exact HC0.out); rintro e w17 ⟨rfl, hb⟩; refine ⟨_, rfl, ?_⟩; have n0_ := Aside0.mk (Kd.R_below (rs_ HO106.out) hb); have n1_ := Aside0.mk (blk_below (g := gb101) (o := .cells #[.int .i64 a2_0, .int .i64 a2_1, .int .i64 a2_2] 31 (0, 0)) (bs_ BK101.out) hb); have n2_ := Aside0.mk (below_step (wg_ HB.out GE101.out) hb); clear HO106; clear BK101; clear HB; have HO106 := n0_; have BK101 := n1_; have HB := n2_; clear n0_ n1_ n2_; (try clear hb); (try clear hb2); (try clear hk); (try clear hi)))
  go_ret2
  exact ⟨by first | rfl | (simp [errW_none, errW_some] <;> rfl) | (simp [*, errW_none, errW_some] <;> rfl), by repeat (first | (with_reducible first | exact HB.out | apply below_alloc | apply pw_below_drewN | apply below_drew1 | refine below_set ?_ GE101.out) | exact HB.out)⟩
 ·rw [if_neg c7] at H
  have c7b0 : (t107 == 0) = false := beq_eq_false_iff_ne.mpr c7
  have c7b1 : (t107 != 0) = true := bne_iff_ne.mpr c7
  simp only [Option.some.injEq, Prod.mk.injEq] at H
  obtain ⟨rfl, rfl⟩ := H
  go_enter Tryz.func29, Tryz.ntmps29
  try go_wp2_with (first | ((with_reducible refine gate_dst (N := 5) rfl ?_); refine box_event ?hg (N := 5) ?hd (cs := #[.int .i64 a2_0, .int .i64 a2_1, .int .i64 a2_2]) (t := 31) ?hr ?_; (case hd => rfl); (case hg => rfl); (case hr => first | (go_simp; done) | (go_simp; rfl)); intro gb101 hg w18 hbox hb; have n0_ := Aside0.mk (below_step (ws_ HB.out) hb); have n1_ := Aside0.mk (hbox); have n2_ := Aside0.mk ((by rw [hg]; exact (below_size (ws_ HB.out)) : w.heap.size ≤ gb101)); have n3_ := Aside0.mk ((by rw [hg]; exact (below_size (ws_ HB.out)) : w.heap.size ≤ gb101)); clear HB; have HB := n0_; have BK101 := n1_; have GW101 := n2_; have GE101 := n3_; clear n0_ n1_ n2_ n3_; clear hb hbox hg))
  have n0_ := Aside0.mk (blk_drew BK101.out)
  have n1_ := Aside0.mk (below_drew1 HB.out)
  clear BK101
  clear HB
  have BK101 := n0_
  have HB := n1_
  clear n0_ n1_
  refine start_ (n := 8) (S := fun w' => w'.cell? ⟨gb101, 0, none⟩ = some (.int .i64 a2_0) ∧ w'.cell? ⟨gb101, 1, none⟩ = some (.int .i64 a2_1) ∧ w'.cell? ⟨gb101, 2, none⟩ = some (.int .i64 a2_2)) (ds := []) #[false, false, false, false, false, false, false, false] (by kernel_rfl) rfl rfl ⟨(blk_cell BK101.out 0).trans rfl, (blk_cell BK101.out 1).trans rfl, (blk_cell BK101.out 2).trans rfl⟩ (fun hHeld => ?_); refine with_tabW market_Best.tab1 market_Best.bits1 (fun HT_ HW_ => ?_)
  generalize w18.drew = w19 at BK101 HB hHeld ⊢
  refine pv_ 0 9 #[true, false, false, false, false, false, false, false] (any_of HT_.out (by kernel_rfl)) ?_
  refine pv_ 1 10 #[true, true, false, false, false, false, false, false] (any_of HT_.out (by kernel_rfl)) ?_
  refine take_ (i := 3) (N := some 12) (v := ?_) (a' := ?_) #[true, true, false, true, false, false, false, false] rfl rfl (take_ofW HT_.out HW_.out (by kernel_rfl)) (fun _ _ _ h => h) (Or.inl ⟨by rfl, ?_⟩) hHeld ?_ ?_
  rotate_left
  ·rintro w' ⟨s0, s1, s2⟩
   go_simp
   with_reducible rfl
  rotate_left
  ·simp only [Act.put, List.setIfInBounds_toArray, List.set_cons_zero, List.set_cons_succ, i64_w, i32_w]
   rfl
  refine one_ (i := 2) (N := some 11) #[true, true, true, true, false, false, false, false] rfl rfl (one_of HT_.out (by kernel_rfl)) (by decide) (fun K hK => ?_)
  refine goes_ Tryz.func94 (by kernel_rfl) rfl #[.slice A0 l0.length c0, .int .i64 a1] (by rfl) rfl rfl (by (try simp only [List.map_toArray, List.map_cons, List.map_nil]); first | done | rfl | (simp only [List.length_drop, List.length_take]; rfl)) ?_
  with_reducible refine (market_checkQuarter.calls k _ _ l0 a1 t102 _ ?side1 ?side2 A4.out).mono ?_
  (case side1 => exact cs_ (Kd.C_below HR0.out HB.out))
  (case side2 => exact HC0.out)
  rintro e w20 ⟨rfl, hb⟩
  refine ⟨_, rfl, ?_⟩
  have n0_ := Aside0.mk (blk_below (g := gb101) (o := .cells #[.int .i64 a2_0, .int .i64 a2_1, .int .i64 a2_2] 31 (0, 0)) (bs_ BK101.out) hb)
  have n1_ := Aside0.mk (below_step (wg_ HB.out GE101.out) hb)
  clear BK101
  clear HB
  have BK101 := n0_
  have HB := n1_
  clear n0_ n1_
  (try clear hb)
  (try clear hb2)
  (try clear hk)
  (try clear hi)
  refine hK.out _ _ ⟨(blk_cell BK101.out 0).trans rfl, (blk_cell BK101.out 1).trans rfl, (blk_cell BK101.out 2).trans rfl⟩ (fun hHeld => ?_)
  clear hK K
  refine norm_ (a' := ?_) ?_ ?_
  rotate_left
  ·show Act.put _ (some 11) _ = _
   simp only [Act.put, List.setIfInBounds_toArray, List.set_cons_zero, List.set_cons_succ, i64_w, i32_w]
   rfl
  refine one_ (i := 4) (N := some 13) #[true, true, true, true, true, false, false, false] rfl rfl (one_of HT_.out (by kernel_rfl)) (by decide) (fun K hK => ?_)
  refine goes_ Tryz.func27 (by kernel_rfl) rfl #[.agg #[.int .i64 a2_0, .int .i64 a2_1, .int .i64 a2_2]] (by rfl) rfl rfl (by (try simp only [List.map_toArray, List.map_cons, List.map_nil]); first | done | rfl | (simp only [List.length_drop, List.length_take]; rfl)) ?_
  with_reducible refine (market_CheckPrices.calls k a2_0 a2_1 a2_2 t103 _ A5.out).mono ?_
  rintro e w21 ⟨rfl, hb⟩
  refine ⟨_, rfl, ?_⟩
  have n0_ := Aside0.mk (blk_below (g := gb101) (o := .cells #[.int .i64 a2_0, .int .i64 a2_1, .int .i64 a2_2] 31 (0, 0)) (bs_ BK101.out) hb)
  have n1_ := Aside0.mk (below_step (wg_ HB.out GE101.out) hb)
  clear BK101
  clear HB
  have BK101 := n0_
  have HB := n1_
  clear n0_ n1_
  (try clear hb)
  (try clear hb2)
  (try clear hk)
  (try clear hi)
  refine hK.out _ _ ⟨(blk_cell BK101.out 0).trans rfl, (blk_cell BK101.out 1).trans rfl, (blk_cell BK101.out 2).trans rfl⟩ (fun hHeld => ?_)
  clear hK K
  refine norm_ (a' := ?_) ?_ ?_
  rotate_left
  ·show Act.put _ (some 13) _ = _
   simp only [Act.put, List.setIfInBounds_toArray, List.set_cons_zero, List.set_cons_succ, i64_w, i32_w]
   rfl
  refine one_ (i := 5) (N := some 14) #[true, true, true, true, true, true, false, false] rfl rfl (one_of HT_.out (by kernel_rfl)) (by decide) (fun K hK => ?_)
  refine Kd.R_lit_step (Kd.int .i64) _ 28 ?hg (N := 14) ?hd (xs := ([t102, t103] : List Int)) (inner := [.int .i64 t102, .int .i64 t103]) (ok := fun _ => True) (okp := fun _ => True) ?hr ?hp (fun _ hk => hk) trivial (Below.refl _ _) (Nat.le_refl _) (by simp) ?_; (case hd => rfl); (case hg => rfl); (case hr => first | (go_simp; done) | (go_simp; rfl)); (case hp => exact (Reps.one (show Kd.M (Kd.int .i64) _ _ _ t102 [.int .i64 t102] from rfl) (Reps.one (show Kd.M (Kd.int .i64) _ _ _ t103 [.int .i64 t103] from rfl) (Reps.none _ _))))
  intro v105 w22 ho23 hb hg_ hnew_
  clear hg_ hnew_
  (first | rw [← Ny104.out] at ho23 | (simp only [Int.reduceToNat] at ho23; rw [← Ny104.out] at ho23))
  have n0_ := Aside0.mk (Kd.R_lower ho23 (below_size (wg_ HB.out GE101.out)))
  have n1_ := Aside0.mk (blk_below (g := gb101) (o := .cells #[.int .i64 a2_0, .int .i64 a2_1, .int .i64 a2_2] 31 (0, 0)) (bs_ BK101.out) hb)
  have n2_ := Aside0.mk (below_step (wg_ HB.out GE101.out) hb)
  clear BK101
  clear HB
  have HO106 := n0_
  have BK101 := n1_
  have HB := n2_
  clear n0_ n1_ n2_
  clear hb ho23
  obtain ⟨Ao24, co24, eo24⟩ := Kd.R_slice HO106.out
  (first | subst eo24 | (injection eo24 with f1_ f2_ f3_; have f4_ := f1_.symm; have f5_ := f3_.symm; clear f1_ f2_ f3_; subst f4_; subst f5_))
  refine hK.out _ _ ⟨(blk_cell BK101.out 0).trans rfl, (blk_cell BK101.out 1).trans rfl, (blk_cell BK101.out 2).trans rfl⟩ (fun hHeld => ?_)
  clear hK K
  refine norm_ (a' := ?_) ?_ ?_
  rotate_left
  ·show Act.put _ (some 14) _ = _
   simp only [Act.put, List.setIfInBounds_toArray, List.set_cons_zero, List.set_cons_succ, i64_w, i32_w]
   rfl
  refine one_ (i := 6) (N := some 15) #[true, true, true, true, true, true, true, false] rfl rfl (one_of HT_.out (by kernel_rfl)) (by decide) (fun K hK => ?_)
  refine goes_ Tryz.func85 (by kernel_rfl) rfl #[.slice Ao24 y104.length co24] (by rfl) rfl rfl (by (try simp only [List.map_toArray, List.map_cons, List.map_nil]); first | done | rfl | (simp only [List.length_drop, List.length_take]; rfl)) ?_
  with_reducible refine (market_first.calls k _ _ y104 t107 _ ?side1 ?side2 A6.out).mono ?_
  (case side1 => repeat (first | exact (Kd.R_reads' HO106.out).2.2 | (with_reducible refine Kd.C_alloc ?_ _) | (with_reducible refine Kd.C_drewN ?_ _) | (with_reducible refine Kd.C_drew ?_)))
  (case side2 => exact (Kd.R_reads' HO106.out).2.1)
  rintro e w' ⟨rfl, ⟨nd, rfl⟩⟩
  refine ⟨_, rfl, ?_⟩
  refine hK.out _ _ ⟨(blk_cell BK101.out 0).trans rfl, (blk_cell BK101.out 1).trans rfl, (blk_cell BK101.out 2).trans rfl⟩ (fun hHeld => ?_)
  clear hK K
  refine norm_ (a' := ?_) ?_ ?_
  rotate_left
  ·show Act.put _ (some 15) _ = _
   simp only [Act.put, List.setIfInBounds_toArray, List.set_cons_zero, List.set_cons_succ, i64_w, i32_w]
   rfl
  refine pv_ 7 8 #[true, true, true, true, true, true, true, true] (any_of HT_.out (by kernel_rfl)) ?_
  refine done_ (done_of HT_.out (by kernel_rfl)) ?_
  try go_wp2
  go_ret2
  exact ⟨by first | rfl | (simp [errW_none, errW_some] <;> rfl) | (simp [*, errW_none, errW_some] <;> rfl), by repeat (first | (with_reducible first | exact HB.out | apply below_alloc | apply pw_below_drewN | apply below_drew1 | refine below_set ?_ GE101.out) | exact HB.out)⟩
/-! ### market_CheckBest: function 30 -/
def market_CheckBest.f (k : Nat) (l0 : List (S156)) (a1 : Int) (a2_0 : Int) (a2_1 : Int) (a2_2 : Int) (a3 : Int) : Option (Int) := (market_checkQuarter.f k l0 a1).bind fun t102 => ((market_CheckPrices.f k a2_0 a2_1 a2_2).bind fun t103 => ((market_checkEnergy.f a3).bind fun t104 => ((market_first.f k (([t102, t103, t104] : List Int))).bind fun t108 => (if t108 = 0 then ((market_best.f l0 a1 a2_0 a2_1 a2_2).bind fun t109 => ((market_when.f (a3 != t109) 22).bind fun t110 => (some t110))) else (some t108)))))
def market_CheckBest.T1 : Bool × List (List Nat × List Nat) := (true, [([], []), ([], []), ([0, 1], [0, 1]), ([], []), ([3, 2], [3]), ([], []), ([5, 4], [5]), ([2, 4, 6], [2, 4, 6]), ([7, 6], [7]), ([8, 8, 0, 1, 2, 3, 4, 5, 6, 7, 8], [8])])
def market_CheckBest.B1 : List Nat := [0, 0, 3, 0, 15, 0, 63, 127, 255, 511]
theorem market_CheckBest.tab1 : rtab .any (opsOf Tryz.f30 1) = market_CheckBest.T1 := by kernel_rfl
theorem market_CheckBest.bits1 : waitsOk market_CheckBest.T1.2 market_CheckBest.B1 = true := by kernel_rfl
set_option maxHeartbeats 8000000 in
set_option maxRecDepth 100000 in
theorem market_CheckBest.calls (k : Nat) (A0 : Option Addr) (c0 : Nat) (l0 : List (S156)) (a1 : Int) (a2_0 : Int) (a2_1 : Int) (a2_2 : Int) (a3 : Int) (r : Int) (w : World) (hr0 : Kd.C k156 w A0 l0.length l0) (hc0 : l0.length ≤ c0) (h : market_CheckBest.f k l0 a1 a2_0 a2_1 a2_2 a3 = some r) :
  Calls Tryz.prog 30 #[.slice A0 l0.length c0, .int .i64 a1, .agg #[.int .i64 a2_0, .int .i64 a2_1, .int .i64 a2_2], .int .i64 a3] w fun e w' => e = .returned (.int .i64 r) ∧ Below w.heap.size w w' := by
 have hu31 := Tryz.underlying31
 have HR0 := Aside0.mk hr0
 have HC0 := Aside0.mk hc0
 clear hr0 hc0
 have HB := Aside0.mk (Below.refl w.heap.size w)
 have H : ((market_checkQuarter.f k l0 a1).bind fun t102 => ((market_CheckPrices.f k a2_0 a2_1 a2_2).bind fun t103 => ((market_checkEnergy.f a3).bind fun t104 => ((market_first.f k (([t102, t103, t104] : List Int))).bind fun t108 => (if t108 = 0 then ((market_best.f l0 a1 a2_0 a2_1 a2_2).bind fun t109 => ((market_when.f (a3 != t109) 22).bind fun t110 => (some t110))) else (some t108)))))) = some r := h
 clear h
 replace H := Option.bind_eq_some_iff.mp H
 obtain ⟨t102, A50, H⟩ := H
 replace H : ((market_CheckPrices.f k a2_0 a2_1 a2_2).bind fun t103 => ((market_checkEnergy.f a3).bind fun t104 => ((market_first.f k (([t102, t103, t104] : List Int))).bind fun t108 => (if t108 = 0 then ((market_best.f l0 a1 a2_0 a2_1 a2_2).bind fun t109 => ((market_when.f (a3 != t109) 22).bind fun t110 => (some t110))) else (some t108))))) = some r := H
 have A5 := Aside0.mk A50
 clear A50
 replace H := Option.bind_eq_some_iff.mp H
 obtain ⟨t103, A60, H⟩ := H
 replace H : ((market_checkEnergy.f a3).bind fun t104 => ((market_first.f k (([t102, t103, t104] : List Int))).bind fun t108 => (if t108 = 0 then ((market_best.f l0 a1 a2_0 a2_1 a2_2).bind fun t109 => ((market_when.f (a3 != t109) 22).bind fun t110 => (some t110))) else (some t108)))) = some r := H
 have A6 := Aside0.mk A60
 clear A60
 replace H := Option.bind_eq_some_iff.mp H
 obtain ⟨t104, A70, H⟩ := H
 replace H : ((market_first.f k (([t102, t103, t104] : List Int))).bind fun t108 => (if t108 = 0 then ((market_best.f l0 a1 a2_0 a2_1 a2_2).bind fun t109 => ((market_when.f (a3 != t109) 22).bind fun t110 => (some t110))) else (some t108))) = some r := H
 have A7 := Aside0.mk A70
 clear A70
 obtain ⟨y105, hy105⟩ : ∃ y_ : List Int, y_ = (([t102, t103, t104] : List Int)) := ⟨_, rfl⟩
 replace H : ((market_first.f k y105).bind fun t108 => (if t108 = 0 then ((market_best.f l0 a1 a2_0 a2_1 a2_2).bind fun t109 => ((market_when.f (a3 != t109) 22).bind fun t110 => (some t110))) else (some t108))) = some r := by first | (rw [hy105]; with_reducible exact H) | (have H2_ := (Option.bind_some _ _).symm.trans H; rw [hy105]; with_reducible exact H2_) | (have H2_ := (Option.bind_some _ _).symm.trans H; with_reducible exact H2_) | with_reducible exact H | (rw [hy105]; exact H) | exact H
 have Ny105 := Aside0.mk hy105
 clear hy105
 replace H := Option.bind_eq_some_iff.mp H
 obtain ⟨t108, A80, H⟩ := H
 replace H : (if t108 = 0 then ((market_best.f l0 a1 a2_0 a2_1 a2_2).bind fun t109 => ((market_when.f (a3 != t109) 22).bind fun t110 => (some t110))) else (some t108)) = some r := H
 have A8 := Aside0.mk A80
 clear A80
 by_cases c9 : t108 = 0
 ·rw [if_pos c9] at H
  have c9b0 : (t108 == 0) = true := beq_iff_eq.mpr c9
  have c9b1 : (t108 != 0) = false := bne_eq_false_iff_eq.mpr c9
  clear c9
  replace H := Option.bind_eq_some_iff.mp H
  obtain ⟨t109, A100, H⟩ := H
  replace H : ((market_when.f (a3 != t109) 22).bind fun t110 => (some t110)) = some r := H
  have A10 := Aside0.mk A100
  clear A100
  replace H := Option.bind_eq_some_iff.mp H
  obtain ⟨t110, A110, H⟩ := H
  replace H : (some t110) = some r := H
  have A11 := Aside0.mk A110
  clear A110
  obtain rfl := Option.some.inj H
  go_enter Tryz.func30, Tryz.ntmps30
  try go_wp2_with (first | ((with_reducible refine gate_dst (N := 6) rfl ?_); refine box_event ?hg (N := 6) ?hd (cs := #[.int .i64 a2_0, .int .i64 a2_1, .int .i64 a2_2]) (t := 31) ?hr ?_; (case hd => rfl); (case hg => rfl); (case hr => first | (go_simp; done) | (go_simp; rfl)); intro gb101 hg w12 hbox hb; have n0_ := Aside0.mk (below_step (ws_ HB.out) hb); have n1_ := Aside0.mk (hbox); have n2_ := Aside0.mk ((by rw [hg]; exact (below_size (ws_ HB.out)) : w.heap.size ≤ gb101)); have n3_ := Aside0.mk ((by rw [hg]; exact (below_size (ws_ HB.out)) : w.heap.size ≤ gb101)); clear HB; have HB := n0_; have BK101 := n1_; have GW101 := n2_; have GE101 := n3_; clear n0_ n1_ n2_ n3_; clear hb hbox hg))
  have n0_ := Aside0.mk (blk_drew BK101.out)
  have n1_ := Aside0.mk (below_drew1 HB.out)
  clear BK101
  clear HB
  have BK101 := n0_
  have HB := n1_
  clear n0_ n1_
  refine start_ (n := 10) (S := fun w' => w'.cell? ⟨gb101, 0, none⟩ = some (.int .i64 a2_0) ∧ w'.cell? ⟨gb101, 1, none⟩ = some (.int .i64 a2_1) ∧ w'.cell? ⟨gb101, 2, none⟩ = some (.int .i64 a2_2)) (ds := []) #[false, false, false, false, false, false, false, false, false, false] (by kernel_rfl) rfl rfl ⟨(blk_cell BK101.out 0).trans rfl, (blk_cell BK101.out 1).trans rfl, (blk_cell BK101.out 2).trans rfl⟩ (fun hHeld => ?_); refine with_tabW market_CheckBest.tab1 market_CheckBest.bits1 (fun HT_ HW_ => ?_)
  generalize w12.drew = w13 at BK101 HB hHeld ⊢
  refine pv_ 0 10 #[true, false, false, false, false, false, false, false, false, false] (any_of HT_.out (by kernel_rfl)) ?_
  refine pv_ 1 11 #[true, true, false, false, false, false, false, false, false, false] (any_of HT_.out (by kernel_rfl)) ?_
  refine pv_ 5 15 #[true, true, false, false, false, true, false, false, false, false] (any_of HT_.out (by kernel_rfl)) ?_
  refine take_ (i := 3) (N := some 13) (v := ?_) (a' := ?_) #[true, true, false, true, false, true, false, false, false, false] rfl rfl (take_ofW HT_.out HW_.out (by kernel_rfl)) (fun _ _ _ h => h) (Or.inl ⟨by rfl, ?_⟩) hHeld ?_ ?_
  rotate_left
  ·rintro w' ⟨s0, s1, s2⟩
   go_simp
   with_reducible rfl
  rotate_left
  ·simp only [Act.put, List.setIfInBounds_toArray, List.set_cons_zero, List.set_cons_succ, i64_w, i32_w]
   rfl
  refine one_ (i := 2) (N := some 12) #[true, true, true, true, false, true, false, false, false, false] rfl rfl (one_of HT_.out (by kernel_rfl)) (by decide) (fun K hK => ?_)
  refine goes_ Tryz.func94 (by kernel_rfl) rfl #[.slice A0 l0.length c0, .int .i64 a1] (by rfl) rfl rfl (by (try simp only [List.map_toArray, List.map_cons, List.map_nil]); first | done | rfl | (simp only [List.length_drop, List.length_take]; rfl)) ?_
  with_reducible refine (market_checkQuarter.calls k _ _ l0 a1 t102 _ ?side1 ?side2 A5.out).mono ?_
  (case side1 => exact cs_ (Kd.C_below HR0.out HB.out))
  (case side2 => exact HC0.out)
  rintro e w14 ⟨rfl, hb⟩
  refine ⟨_, rfl, ?_⟩
  have n0_ := Aside0.mk (blk_below (g := gb101) (o := .cells #[.int .i64 a2_0, .int .i64 a2_1, .int .i64 a2_2] 31 (0, 0)) (bs_ BK101.out) hb)
  have n1_ := Aside0.mk (below_step (wg_ HB.out GE101.out) hb)
  clear BK101
  clear HB
  have BK101 := n0_
  have HB := n1_
  clear n0_ n1_
  (try clear hb)
  (try clear hb2)
  (try clear hk)
  (try clear hi)
  refine hK.out _ _ ⟨(blk_cell BK101.out 0).trans rfl, (blk_cell BK101.out 1).trans rfl, (blk_cell BK101.out 2).trans rfl⟩ (fun hHeld => ?_)
  clear hK K
  refine norm_ (a' := ?_) ?_ ?_
  rotate_left
  ·show Act.put _ (some 12) _ = _
   simp only [Act.put, List.setIfInBounds_toArray, List.set_cons_zero, List.set_cons_succ, i64_w, i32_w]
   rfl
  refine one_ (i := 4) (N := some 14) #[true, true, true, true, true, true, false, false, false, false] rfl rfl (one_of HT_.out (by kernel_rfl)) (by decide) (fun K hK => ?_)
  refine goes_ Tryz.func27 (by kernel_rfl) rfl #[.agg #[.int .i64 a2_0, .int .i64 a2_1, .int .i64 a2_2]] (by rfl) rfl rfl (by (try simp only [List.map_toArray, List.map_cons, List.map_nil]); first | done | rfl | (simp only [List.length_drop, List.length_take]; rfl)) ?_
  with_reducible refine (market_CheckPrices.calls k a2_0 a2_1 a2_2 t103 _ A6.out).mono ?_
  rintro e w15 ⟨rfl, hb⟩
  refine ⟨_, rfl, ?_⟩
  have n0_ := Aside0.mk (blk_below (g := gb101) (o := .cells #[.int .i64 a2_0, .int .i64 a2_1, .int .i64 a2_2] 31 (0, 0)) (bs_ BK101.out) hb)
  have n1_ := Aside0.mk (below_step (wg_ HB.out GE101.out) hb)
  clear BK101
  clear HB
  have BK101 := n0_
  have HB := n1_
  clear n0_ n1_
  (try clear hb)
  (try clear hb2)
  (try clear hk)
  (try clear hi)
  refine hK.out _ _ ⟨(blk_cell BK101.out 0).trans rfl, (blk_cell BK101.out 1).trans rfl, (blk_cell BK101.out 2).trans rfl⟩ (fun hHeld => ?_)
  clear hK K
  refine norm_ (a' := ?_) ?_ ?_
  rotate_left
  ·show Act.put _ (some 14) _ = _
   simp only [Act.put, List.setIfInBounds_toArray, List.set_cons_zero, List.set_cons_succ, i64_w, i32_w]
   rfl
  refine one_ (i := 6) (N := some 16) #[true, true, true, true, true, true, true, false, false, false] rfl rfl (one_of HT_.out (by kernel_rfl)) (by decide) (fun K hK => ?_)
  refine goes_ Tryz.func86 (by kernel_rfl) rfl #[.int .i64 a3] (by rfl) rfl rfl (by (try simp only [List.map_toArray, List.map_cons, List.map_nil]); first | done | rfl | (simp only [List.length_drop, List.length_take]; rfl)) ?_
  with_reducible refine (market_checkEnergy.calls a3 t104 _ A7.out).mono ?_
  rintro e w' ⟨rfl, ⟨nd, rfl⟩⟩
  refine ⟨_, rfl, ?_⟩
  refine hK.out _ _ ⟨(blk_cell BK101.out 0).trans rfl, (blk_cell BK101.out 1).trans rfl, (blk_cell BK101.out 2).trans rfl⟩ (fun hHeld => ?_)
  clear hK K
  refine norm_ (a' := ?_) ?_ ?_
  rotate_left
  ·show Act.put _ (some 16) _ = _
   simp only [Act.put, List.setIfInBounds_toArray, List.set_cons_zero, List.set_cons_succ, i64_w, i32_w]
   rfl
  refine one_ (i := 7) (N := some 17) #[true, true, true, true, true, true, true, true, false, false] rfl rfl (one_of HT_.out (by kernel_rfl)) (by decide) (fun K hK => ?_)
  refine Kd.R_lit_step (Kd.int .i64) _ 28 ?hg (N := 17) ?hd (xs := ([t102, t103, t104] : List Int)) (inner := [.int .i64 t102, .int .i64 t103, .int .i64 t104]) (ok := fun _ => True) (okp := fun _ => True) ?hr ?hp (fun _ hk => hk) trivial (Below.refl _ _) (Nat.le_refl _) (by simp) ?_; (case hd => rfl); (case hg => rfl); (case hr => first | (go_simp; done) | (go_simp; rfl)); (case hp => exact (Reps.one (show Kd.M (Kd.int .i64) _ _ _ t102 [.int .i64 t102] from rfl) (Reps.one (show Kd.M (Kd.int .i64) _ _ _ t103 [.int .i64 t103] from rfl) (Reps.one (show Kd.M (Kd.int .i64) _ _ _ t104 [.int .i64 t104] from rfl) (Reps.none _ _)))))
  intro v106 w16 ho17 hb hg_ hnew_
  clear hg_ hnew_
  (first | rw [← Ny105.out] at ho17 | (simp only [Int.reduceToNat] at ho17; rw [← Ny105.out] at ho17))
  have n0_ := Aside0.mk (Kd.R_lower ho17 (below_size (wg_ HB.out GE101.out)))
  have n1_ := Aside0.mk (blk_below (g := gb101) (o := .cells #[.int .i64 a2_0, .int .i64 a2_1, .int .i64 a2_2] 31 (0, 0)) (bs_ BK101.out) hb)
  have n2_ := Aside0.mk (below_step (wg_ HB.out GE101.out) hb)
  clear BK101
  clear HB
  have HO107 := n0_
  have BK101 := n1_
  have HB := n2_
  clear n0_ n1_ n2_
  clear hb ho17
  obtain ⟨Ao18, co18, eo18⟩ := Kd.R_slice HO107.out
  (first | subst eo18 | (injection eo18 with f1_ f2_ f3_; have f4_ := f1_.symm; have f5_ := f3_.symm; clear f1_ f2_ f3_; subst f4_; subst f5_))
  refine hK.out _ _ ⟨(blk_cell BK101.out 0).trans rfl, (blk_cell BK101.out 1).trans rfl, (blk_cell BK101.out 2).trans rfl⟩ (fun hHeld => ?_)
  clear hK K
  refine norm_ (a' := ?_) ?_ ?_
  rotate_left
  ·show Act.put _ (some 17) _ = _
   simp only [Act.put, List.setIfInBounds_toArray, List.set_cons_zero, List.set_cons_succ, i64_w, i32_w]
   rfl
  refine one_ (i := 8) (N := some 18) #[true, true, true, true, true, true, true, true, true, false] rfl rfl (one_of HT_.out (by kernel_rfl)) (by decide) (fun K hK => ?_)
  refine goes_ Tryz.func85 (by kernel_rfl) rfl #[.slice Ao18 y105.length co18] (by rfl) rfl rfl (by (try simp only [List.map_toArray, List.map_cons, List.map_nil]); first | done | rfl | (simp only [List.length_drop, List.length_take]; rfl)) ?_
  with_reducible refine (market_first.calls k _ _ y105 t108 _ ?side1 ?side2 A8.out).mono ?_
  (case side1 => repeat (first | exact (Kd.R_reads' HO107.out).2.2 | (with_reducible refine Kd.C_alloc ?_ _) | (with_reducible refine Kd.C_drewN ?_ _) | (with_reducible refine Kd.C_drew ?_)))
  (case side2 => exact (Kd.R_reads' HO107.out).2.1)
  rintro e w' ⟨rfl, ⟨nd, rfl⟩⟩
  refine ⟨_, rfl, ?_⟩
  refine hK.out _ _ ⟨(blk_cell BK101.out 0).trans rfl, (blk_cell BK101.out 1).trans rfl, (blk_cell BK101.out 2).trans rfl⟩ (fun hHeld => ?_)
  clear hK K
  refine norm_ (a' := ?_) ?_ ?_
  rotate_left
  ·show Act.put _ (some 18) _ = _
   simp only [Act.put, List.setIfInBounds_toArray, List.set_cons_zero, List.set_cons_succ, i64_w, i32_w]
   rfl
  refine pv_ 9 9 #[true, true, true, true, true, true, true, true, true, true] (any_of HT_.out (by kernel_rfl)) ?_
  refine done_ (done_of HT_.out (by kernel_rfl)) ?_
  have hcz19_0 : w16.cell? ⟨gb101, 0, none⟩ = some (.int .i64 a2_0) := (blk_cell BK101.out 0).trans rfl
  have hcz19_1 : w16.cell? ⟨gb101, 1, none⟩ = some (.int .i64 a2_1) := (blk_cell BK101.out 1).trans rfl
  have hcz19_2 : w16.cell? ⟨gb101, 2, none⟩ = some (.int .i64 a2_2) := (blk_cell BK101.out 2).trans rfl
  have hfz19_0 := blk_frozen BK101.out 0
  have hfz19_1 := blk_frozen BK101.out 1
  have hfz19_2 := blk_frozen BK101.out 2
  try go_wp2_with (first | ((with_reducible refine gate_callee (f := 98) rfl ?_); refine gl_ (some 26) Tryz.func98 #[.slice A0 l0.length c0, .int .i64 a1, .agg #[.int .i64 a2_0, .int .i64 a2_1, .int .i64 a2_2]] ?_; (with_reducible refine (market_best.calls _ _ l0 a1 a2_0 a2_1 a2_2 t109 _ ?side1 ?side2 A10.out).mono ?_); (case side1 => repeat (first | exact (Kd.C_below HR0.out (wg_ HB.out GE101.out)) | (with_reducible refine Kd.C_alloc ?_ _) | (with_reducible refine Kd.C_drewN ?_ _) | (with_reducible refine Kd.C_drew ?_))); (case side2 => exact HC0.out); rintro e w20 ⟨rfl, hb⟩; refine ⟨_, rfl, ?_⟩; have n0_ := Aside0.mk (Kd.R_below (rs_ HO107.out) hb); have n1_ := Aside0.mk (blk_below (g := gb101) (o := .cells #[.int .i64 a2_0, .int .i64 a2_1, .int .i64 a2_2] 31 (0, 0)) (bs_ BK101.out) hb); have n2_ := Aside0.mk (below_step (wg_ HB.out GE101.out) hb); clear HO107; clear BK101; clear HB; have HO107 := n0_; have BK101 := n1_; have HB := n2_; clear n0_ n1_ n2_; (try clear hb); (try clear hb2); (try clear hk); (try clear hi)) | ((with_reducible refine gate_callee (f := 90) rfl ?_); refine gl_ (some 28) Tryz.func90 #[.bool (a3 != t109), .int .i64 22] ?_; (with_reducible refine (market_when.calls (a3 != t109) 22 t110 _ A11.out).mono ?_); rintro e w' ⟨rfl, ⟨nd, rfl⟩⟩; refine ⟨_, rfl, ?_⟩))
  go_ret
  exact ⟨by first | rfl | (simp [errW_none, errW_some] <;> rfl) | (simp [*, errW_none, errW_some] <;> rfl), by repeat (first | (with_reducible first | exact HB.out | apply below_alloc | apply pw_below_drewN | apply below_drew1 | refine below_set ?_ GE101.out) | exact HB.out)⟩
 ·rw [if_neg c9] at H
  have c9b0 : (t108 == 0) = false := beq_eq_false_iff_ne.mpr c9
  have c9b1 : (t108 != 0) = true := bne_iff_ne.mpr c9
  obtain rfl := Option.some.inj H
  go_enter Tryz.func30, Tryz.ntmps30
  try go_wp2_with (first | ((with_reducible refine gate_dst (N := 6) rfl ?_); refine box_event ?hg (N := 6) ?hd (cs := #[.int .i64 a2_0, .int .i64 a2_1, .int .i64 a2_2]) (t := 31) ?hr ?_; (case hd => rfl); (case hg => rfl); (case hr => first | (go_simp; done) | (go_simp; rfl)); intro gb101 hg w21 hbox hb; have n0_ := Aside0.mk (below_step (ws_ HB.out) hb); have n1_ := Aside0.mk (hbox); have n2_ := Aside0.mk ((by rw [hg]; exact (below_size (ws_ HB.out)) : w.heap.size ≤ gb101)); have n3_ := Aside0.mk ((by rw [hg]; exact (below_size (ws_ HB.out)) : w.heap.size ≤ gb101)); clear HB; have HB := n0_; have BK101 := n1_; have GW101 := n2_; have GE101 := n3_; clear n0_ n1_ n2_ n3_; clear hb hbox hg))
  have n0_ := Aside0.mk (blk_drew BK101.out)
  have n1_ := Aside0.mk (below_drew1 HB.out)
  clear BK101
  clear HB
  have BK101 := n0_
  have HB := n1_
  clear n0_ n1_
  refine start_ (n := 10) (S := fun w' => w'.cell? ⟨gb101, 0, none⟩ = some (.int .i64 a2_0) ∧ w'.cell? ⟨gb101, 1, none⟩ = some (.int .i64 a2_1) ∧ w'.cell? ⟨gb101, 2, none⟩ = some (.int .i64 a2_2)) (ds := []) #[false, false, false, false, false, false, false, false, false, false] (by kernel_rfl) rfl rfl ⟨(blk_cell BK101.out 0).trans rfl, (blk_cell BK101.out 1).trans rfl, (blk_cell BK101.out 2).trans rfl⟩ (fun hHeld => ?_); refine with_tabW market_CheckBest.tab1 market_CheckBest.bits1 (fun HT_ HW_ => ?_)
  generalize w21.drew = w22 at BK101 HB hHeld ⊢
  refine pv_ 0 10 #[true, false, false, false, false, false, false, false, false, false] (any_of HT_.out (by kernel_rfl)) ?_
  refine pv_ 1 11 #[true, true, false, false, false, false, false, false, false, false] (any_of HT_.out (by kernel_rfl)) ?_
  refine pv_ 5 15 #[true, true, false, false, false, true, false, false, false, false] (any_of HT_.out (by kernel_rfl)) ?_
  refine take_ (i := 3) (N := some 13) (v := ?_) (a' := ?_) #[true, true, false, true, false, true, false, false, false, false] rfl rfl (take_ofW HT_.out HW_.out (by kernel_rfl)) (fun _ _ _ h => h) (Or.inl ⟨by rfl, ?_⟩) hHeld ?_ ?_
  rotate_left
  ·rintro w' ⟨s0, s1, s2⟩
   go_simp
   with_reducible rfl
  rotate_left
  ·simp only [Act.put, List.setIfInBounds_toArray, List.set_cons_zero, List.set_cons_succ, i64_w, i32_w]
   rfl
  refine one_ (i := 2) (N := some 12) #[true, true, true, true, false, true, false, false, false, false] rfl rfl (one_of HT_.out (by kernel_rfl)) (by decide) (fun K hK => ?_)
  refine goes_ Tryz.func94 (by kernel_rfl) rfl #[.slice A0 l0.length c0, .int .i64 a1] (by rfl) rfl rfl (by (try simp only [List.map_toArray, List.map_cons, List.map_nil]); first | done | rfl | (simp only [List.length_drop, List.length_take]; rfl)) ?_
  with_reducible refine (market_checkQuarter.calls k _ _ l0 a1 t102 _ ?side1 ?side2 A5.out).mono ?_
  (case side1 => exact cs_ (Kd.C_below HR0.out HB.out))
  (case side2 => exact HC0.out)
  rintro e w23 ⟨rfl, hb⟩
  refine ⟨_, rfl, ?_⟩
  have n0_ := Aside0.mk (blk_below (g := gb101) (o := .cells #[.int .i64 a2_0, .int .i64 a2_1, .int .i64 a2_2] 31 (0, 0)) (bs_ BK101.out) hb)
  have n1_ := Aside0.mk (below_step (wg_ HB.out GE101.out) hb)
  clear BK101
  clear HB
  have BK101 := n0_
  have HB := n1_
  clear n0_ n1_
  (try clear hb)
  (try clear hb2)
  (try clear hk)
  (try clear hi)
  refine hK.out _ _ ⟨(blk_cell BK101.out 0).trans rfl, (blk_cell BK101.out 1).trans rfl, (blk_cell BK101.out 2).trans rfl⟩ (fun hHeld => ?_)
  clear hK K
  refine norm_ (a' := ?_) ?_ ?_
  rotate_left
  ·show Act.put _ (some 12) _ = _
   simp only [Act.put, List.setIfInBounds_toArray, List.set_cons_zero, List.set_cons_succ, i64_w, i32_w]
   rfl
  refine one_ (i := 4) (N := some 14) #[true, true, true, true, true, true, false, false, false, false] rfl rfl (one_of HT_.out (by kernel_rfl)) (by decide) (fun K hK => ?_)
  refine goes_ Tryz.func27 (by kernel_rfl) rfl #[.agg #[.int .i64 a2_0, .int .i64 a2_1, .int .i64 a2_2]] (by rfl) rfl rfl (by (try simp only [List.map_toArray, List.map_cons, List.map_nil]); first | done | rfl | (simp only [List.length_drop, List.length_take]; rfl)) ?_
  with_reducible refine (market_CheckPrices.calls k a2_0 a2_1 a2_2 t103 _ A6.out).mono ?_
  rintro e w24 ⟨rfl, hb⟩
  refine ⟨_, rfl, ?_⟩
  have n0_ := Aside0.mk (blk_below (g := gb101) (o := .cells #[.int .i64 a2_0, .int .i64 a2_1, .int .i64 a2_2] 31 (0, 0)) (bs_ BK101.out) hb)
  have n1_ := Aside0.mk (below_step (wg_ HB.out GE101.out) hb)
  clear BK101
  clear HB
  have BK101 := n0_
  have HB := n1_
  clear n0_ n1_
  (try clear hb)
  (try clear hb2)
  (try clear hk)
  (try clear hi)
  refine hK.out _ _ ⟨(blk_cell BK101.out 0).trans rfl, (blk_cell BK101.out 1).trans rfl, (blk_cell BK101.out 2).trans rfl⟩ (fun hHeld => ?_)
  clear hK K
  refine norm_ (a' := ?_) ?_ ?_
  rotate_left
  ·show Act.put _ (some 14) _ = _
   simp only [Act.put, List.setIfInBounds_toArray, List.set_cons_zero, List.set_cons_succ, i64_w, i32_w]
   rfl
  refine one_ (i := 6) (N := some 16) #[true, true, true, true, true, true, true, false, false, false] rfl rfl (one_of HT_.out (by kernel_rfl)) (by decide) (fun K hK => ?_)
  refine goes_ Tryz.func86 (by kernel_rfl) rfl #[.int .i64 a3] (by rfl) rfl rfl (by (try simp only [List.map_toArray, List.map_cons, List.map_nil]); first | done | rfl | (simp only [List.length_drop, List.length_take]; rfl)) ?_
  with_reducible refine (market_checkEnergy.calls a3 t104 _ A7.out).mono ?_
  rintro e w' ⟨rfl, ⟨nd, rfl⟩⟩
  refine ⟨_, rfl, ?_⟩
  refine hK.out _ _ ⟨(blk_cell BK101.out 0).trans rfl, (blk_cell BK101.out 1).trans rfl, (blk_cell BK101.out 2).trans rfl⟩ (fun hHeld => ?_)
  clear hK K
  refine norm_ (a' := ?_) ?_ ?_
  rotate_left
  ·show Act.put _ (some 16) _ = _
   simp only [Act.put, List.setIfInBounds_toArray, List.set_cons_zero, List.set_cons_succ, i64_w, i32_w]
   rfl
  refine one_ (i := 7) (N := some 17) #[true, true, true, true, true, true, true, true, false, false] rfl rfl (one_of HT_.out (by kernel_rfl)) (by decide) (fun K hK => ?_)
  refine Kd.R_lit_step (Kd.int .i64) _ 28 ?hg (N := 17) ?hd (xs := ([t102, t103, t104] : List Int)) (inner := [.int .i64 t102, .int .i64 t103, .int .i64 t104]) (ok := fun _ => True) (okp := fun _ => True) ?hr ?hp (fun _ hk => hk) trivial (Below.refl _ _) (Nat.le_refl _) (by simp) ?_; (case hd => rfl); (case hg => rfl); (case hr => first | (go_simp; done) | (go_simp; rfl)); (case hp => exact (Reps.one (show Kd.M (Kd.int .i64) _ _ _ t102 [.int .i64 t102] from rfl) (Reps.one (show Kd.M (Kd.int .i64) _ _ _ t103 [.int .i64 t103] from rfl) (Reps.one (show Kd.M (Kd.int .i64) _ _ _ t104 [.int .i64 t104] from rfl) (Reps.none _ _)))))
  intro v106 w25 ho26 hb hg_ hnew_
  clear hg_ hnew_
  (first | rw [← Ny105.out] at ho26 | (simp only [Int.reduceToNat] at ho26; rw [← Ny105.out] at ho26))
  have n0_ := Aside0.mk (Kd.R_lower ho26 (below_size (wg_ HB.out GE101.out)))
  have n1_ := Aside0.mk (blk_below (g := gb101) (o := .cells #[.int .i64 a2_0, .int .i64 a2_1, .int .i64 a2_2] 31 (0, 0)) (bs_ BK101.out) hb)
  have n2_ := Aside0.mk (below_step (wg_ HB.out GE101.out) hb)
  clear BK101
  clear HB
  have HO107 := n0_
  have BK101 := n1_
  have HB := n2_
  clear n0_ n1_ n2_
  clear hb ho26
  obtain ⟨Ao27, co27, eo27⟩ := Kd.R_slice HO107.out
  (first | subst eo27 | (injection eo27 with f1_ f2_ f3_; have f4_ := f1_.symm; have f5_ := f3_.symm; clear f1_ f2_ f3_; subst f4_; subst f5_))
  refine hK.out _ _ ⟨(blk_cell BK101.out 0).trans rfl, (blk_cell BK101.out 1).trans rfl, (blk_cell BK101.out 2).trans rfl⟩ (fun hHeld => ?_)
  clear hK K
  refine norm_ (a' := ?_) ?_ ?_
  rotate_left
  ·show Act.put _ (some 17) _ = _
   simp only [Act.put, List.setIfInBounds_toArray, List.set_cons_zero, List.set_cons_succ, i64_w, i32_w]
   rfl
  refine one_ (i := 8) (N := some 18) #[true, true, true, true, true, true, true, true, true, false] rfl rfl (one_of HT_.out (by kernel_rfl)) (by decide) (fun K hK => ?_)
  refine goes_ Tryz.func85 (by kernel_rfl) rfl #[.slice Ao27 y105.length co27] (by rfl) rfl rfl (by (try simp only [List.map_toArray, List.map_cons, List.map_nil]); first | done | rfl | (simp only [List.length_drop, List.length_take]; rfl)) ?_
  with_reducible refine (market_first.calls k _ _ y105 t108 _ ?side1 ?side2 A8.out).mono ?_
  (case side1 => repeat (first | exact (Kd.R_reads' HO107.out).2.2 | (with_reducible refine Kd.C_alloc ?_ _) | (with_reducible refine Kd.C_drewN ?_ _) | (with_reducible refine Kd.C_drew ?_)))
  (case side2 => exact (Kd.R_reads' HO107.out).2.1)
  rintro e w' ⟨rfl, ⟨nd, rfl⟩⟩
  refine ⟨_, rfl, ?_⟩
  refine hK.out _ _ ⟨(blk_cell BK101.out 0).trans rfl, (blk_cell BK101.out 1).trans rfl, (blk_cell BK101.out 2).trans rfl⟩ (fun hHeld => ?_)
  clear hK K
  refine norm_ (a' := ?_) ?_ ?_
  rotate_left
  ·show Act.put _ (some 18) _ = _
   simp only [Act.put, List.setIfInBounds_toArray, List.set_cons_zero, List.set_cons_succ, i64_w, i32_w]
   rfl
  refine pv_ 9 9 #[true, true, true, true, true, true, true, true, true, true] (any_of HT_.out (by kernel_rfl)) ?_
  refine done_ (done_of HT_.out (by kernel_rfl)) ?_
  try go_wp2
  go_ret
  exact ⟨by first | rfl | (simp [errW_none, errW_some] <;> rfl) | (simp [*, errW_none, errW_some] <;> rfl), by repeat (first | (with_reducible first | exact HB.out | apply below_alloc | apply pw_below_drewN | apply below_drew1 | refine below_set ?_ GE101.out) | exact HB.out)⟩
end Go.Proofs.YtfdlhbdcejlopaaGreatDoor.B
namespace Go.Proofs.YtfdlhbdcejlopaaGreatDoor.B
def sortCompact.f (l : List Int) : Option (List Int) := if l.length < 17592186044416 then some (Lib.compact (isort l)) else none
theorem sortCompact_spec {l t : List Int} (h : sortCompact.f l = some t) : l.length < 17592186044416 ∧ Lib.compact (isort l) = t := by
 unfold sortCompact.f at h
 split at h
 ·exact ⟨by assumption, Option.some.inj h⟩
 ·cases h
end Go.Proofs.YtfdlhbdcejlopaaGreatDoor.B
namespace Go.Proofs.YtfdlhbdcejlopaaGreatDoor.B
open Go.RowKit Go.Proofs.YtfdlhbdcejlopaaGreatDoorW.PrintWords Go.Proofs.YtfdlhbdcejlopaaGreatDoorW.PrintLast Go.Proofs.YtfdlhbdcejlopaaGreatDoorW.PrintMore
attribute [local go_sem] max2_int min2_int max_two min_two
set_option linter.unusedVariables false
set_option linter.unusedSimpArgs false
/-! ### market_Clear_1: function 106 -/
def market_Clear_1.f (a0_0 : ByteArray) (a0_1 : Int) (a0_2 : Int) : Option (Int) := some a0_1
set_option maxHeartbeats 8000000 in
set_option maxRecDepth 100000 in
theorem market_Clear_1.calls (a0_0 : ByteArray) (a0_1 : Int) (a0_2 : Int) (r : Int) (w : World) (h : market_Clear_1.f a0_0 a0_1 a0_2 = some r) :
  Calls Tryz.prog 106 #[.agg #[.string a0_0, .int .i64 a0_1, .int .i64 a0_2]] w fun e w' => e = .returned (.int .i64 r) ∧ Below w.heap.size w w' := by
 have hu150 := Tryz.underlying150
 have HB := Aside0.mk (Below.refl w.heap.size w)
 have H : (some a0_1) = some r := h
 clear h
 obtain rfl := Option.some.inj H
 go_enter Tryz.func106, Tryz.ntmps106
 go_wp2_with (first | ((with_reducible refine gate_dst (N := 1) rfl ?_); refine box_event ?hg (N := 1) ?hd (cs := #[.string a0_0, .int .i64 a0_1, .int .i64 a0_2]) (t := 150) ?hr ?_; (case hd => rfl); (case hg => rfl); (case hr => first | (go_simp; done) | (go_simp; rfl)); intro gb101 hg w2 hbox hb; have n0_ := Aside0.mk (below_step (ws_ HB.out) hb); have n1_ := Aside0.mk (hbox); have n2_ := Aside0.mk ((by rw [hg]; exact (below_size (ws_ HB.out)) : w.heap.size ≤ gb101)); have n3_ := Aside0.mk ((by rw [hg]; exact (below_size (ws_ HB.out)) : w.heap.size ≤ gb101)); clear HB; have HB := n0_; have BK101 := n1_; have GW101 := n2_; have GE101 := n3_; clear n0_ n1_ n2_ n3_; clear hb hbox hg; have hcz3_0 : w2.cell? ⟨gb101, 0, none⟩ = some (.string a0_0) := (blk_cell BK101.out 0).trans rfl; have hcz3_1 : w2.cell? ⟨gb101, 1, none⟩ = some (.int .i64 a0_1) := (blk_cell BK101.out 1).trans rfl; have hcz3_2 : w2.cell? ⟨gb101, 2, none⟩ = some (.int .i64 a0_2) := (blk_cell BK101.out 2).trans rfl; have hfz3_0 := blk_frozen BK101.out 0; have hfz3_1 := blk_frozen BK101.out 1; have hfz3_2 := blk_frozen BK101.out 2))
 go_ret
 exact ⟨by first | rfl | (simp [errW_none, errW_some] <;> rfl) | (simp [*, errW_none, errW_some] <;> rfl), by repeat (first | (with_reducible first | exact HB.out | apply below_alloc | apply pw_below_drewN | apply below_drew1 | refine below_set ?_ GE101.out) | exact HB.out)⟩
/-! ### market_Bid_int__market_Clear_1: function 105 -/
def market_Bid_int__market_Clear_1.l0 : Nat → List Int → List (S150) → Int → Int → Option (List Int)
 | 0, _, _, _, _ => none
 | k + 1, x5, x8, x9, x10 => if x10 < x9 then (if 0 ≤ x10 then (if x10 < (x8.length : Int) then ((market_Clear_1.f ((rd_T150 x8 x10).f0) ((rd_T150 x8 x10).f1) ((rd_T150 x8 x10).f2)).bind fun t103 => (if x5.length < 17592186044416 then (market_Bid_int__market_Clear_1.l0 k (x5 ++ [t103]) x8 x9 (wrap64 (x10 + 1))) else (none))) else (none)) else (none)) else (some x5)
def market_Bid_int__market_Clear_1.f (k : Nat) (l0 : List (S150)) (a1 : Unit) : Option (List Int) := market_Bid_int__market_Clear_1.l0 k ([] : List Int) l0 (l0.length : Int) 0
set_option maxHeartbeats 8000000 in
set_option maxRecDepth 100000 in
theorem market_Bid_int__market_Clear_1.calls (k : Nat) (A0 : Option Addr) (c0 : Nat) (l0 : List (S150)) (a1 : Unit) (r : List Int) (w : World) (hr0 : Kd.C k150 w A0 l0.length l0) (hc0 : l0.length ≤ c0) (h : market_Bid_int__market_Clear_1.f k l0 a1 = some r) :
  Calls Tryz.prog 105 #[.slice A0 l0.length c0, .func (.func 106) #[] #[]] w fun e w' => ∃ v0_ : Value, e = .returned (v0_) ∧ Kd.R (Kd.int .i64) 3 w' w.heap.size (fun _ => True) v0_ r ∧ Below w.heap.size w w' := by
 have hu150 := Tryz.underlying150
 have HR0 := Aside0.mk hr0
 have HC0 := Aside0.mk hc0
 clear hr0 hc0
 have HB := Aside0.mk (Below.refl w.heap.size w)
 have H : (market_Bid_int__market_Clear_1.l0 k ([] : List Int) l0 (l0.length : Int) 0) = some r := h
 clear h
 have H' := Aside0.mk H
 clear H
 go_enter Tryz.func105, Tryz.ntmps105
 go_wp2
 go_loopg [5, 10] k (fun kq v5 v10 w' => ∃ (x5_1 : List Int) (x10_1 : Int), v10 = .int .i64 x10_1 ∧ Aside0 (market_Bid_int__market_Clear_1.l0 kq x5_1 l0 (l0.length : Int) x10_1 = some r) ∧ Aside0 (kq ≤ k) ∧ Aside0 (Kd.R (Kd.int .i64) 3 w' w.heap.size (fun _ => True) v5 x5_1) ∧ Aside0 (Below w.heap.size w w'))
 case atStart => exact ⟨(([] : List Int)), (0), (by first | rfl | (simp; done) | (simp [*]; done)), H', ⟨Nat.le_refl _⟩, ⟨by first | exact Kd.R_nil _ _ _ _ _ | exact Kd.N_nil _ _ _ _ _ | exact Kd.V_nil _ _ _ _ _ | exact Kd.Q_nil _ _ _ _ _ | exact Kd.S_nil _ _ _ _ _⟩, ⟨by repeat (first | (with_reducible first | exact HB.out | apply below_alloc | apply pw_below_drewN | apply below_drew1) | exact HB.out)⟩⟩
 case round =>
  clear H'
  try clear c1
  try clear p2
  obtain ⟨x5_1, x10_1, rfl, HA, HK1, HO_5, HB⟩ := hrel
  cases gk with
  | zero => exact absurd HA.out (by simp [market_Bid_int__market_Clear_1.l0])
  | succ k1 =>
   have H := HA.out
   clear HA
   simp only [market_Bid_int__market_Clear_1.l0] at H
   by_cases c3 : x10_1 < (l0.length : Int)
   ·rw [if_pos c3] at H
    have c3b0 : decide (x10_1 < (l0.length : Int)) = true := decide_eq_true c3
    clear c3
    by_cases c4 : 0 ≤ x10_1
    ·rw [if_pos c4] at H
     have c4b0 : decide (0 ≤ x10_1) = true := decide_eq_true c4
     clear c4
     by_cases c5 : x10_1 < (l0.length : Int)
     ·rw [if_pos c5] at H
      have c5b0 : decide (x10_1 < (l0.length : Int)) = true := decide_eq_true c5
      clear c5
      replace H := Option.bind_eq_some_iff.mp H
      obtain ⟨t103, A60, H⟩ := H
      replace H : (if x5_1.length < 17592186044416 then (market_Bid_int__market_Clear_1.l0 k1 (x5_1 ++ [t103]) l0 (l0.length : Int) (wrap64 (x10_1 + 1))) else (none)) = some r := H
      have A6 := Aside0.mk A60
      clear A60
      by_cases c7 : x5_1.length < 17592186044416
      ·rw [if_pos c7] at H
       have LMc7 := Aside0.mk c7
       clear c7
       obtain ⟨y104, hy104⟩ : ∃ y_ : List Int, y_ = (x5_1 ++ [t103]) := ⟨_, rfl⟩
       replace H : (market_Bid_int__market_Clear_1.l0 k1 y104 l0 (l0.length : Int) (wrap64 (x10_1 + 1))) = some r := by first | (rw [hy104]; with_reducible exact H) | (have H2_ := (Option.bind_some _ _).symm.trans H; rw [hy104]; with_reducible exact H2_) | (have H2_ := (Option.bind_some _ _).symm.trans H; with_reducible exact H2_) | with_reducible exact H | (rw [hy104]; exact H) | exact H
       have Ny104 := Aside0.mk hy104
       clear hy104
       have H' := Aside0.mk H
       clear H
       have p101 : 0 ≤ (x10_1 : Int) := of_decide_eq_true (by first | (with_reducible assumption) | assumption)
       have q101 : x10_1 < (l0.length : Int) := of_decide_eq_true (by first | (with_reducible assumption) | assumption)
       obtain ⟨ad101, e101, hx101_0, hx101_1, hx101_2⟩ := at_T150 HR0.out x10_1 p101 q101
       cases e101
       replace hx101_0 := (HB.out.cell (World.block_lt_of_cell? w _ hx101_0)).trans hx101_0
       replace hx101_1 := (HB.out.cell (World.block_lt_of_cell? w _ hx101_1)).trans hx101_1
       replace hx101_2 := (HB.out.cell (World.block_lt_of_cell? w _ hx101_2)).trans hx101_2
       replace p101 := eq_true p101
       replace q101 := eq_true q101
       go_wp2_with (first | ((with_reducible refine gate_dst (N := 7) rfl ?_); refine box_event ?hg (N := 7) ?hd (cs := #[.string (⟨#[]⟩ : ByteArray), .int .i64 0, .int .i64 0]) (t := 150) ?hr ?_; (case hd => rfl); (case hg => rfl); (case hr => first | (go_simp; done) | (go_simp; rfl)); intro gb102 hg w8 hbox hb; have n0_ := Aside0.mk (Kd.R_below (rs_ HO_5.out) hb); have n1_ := Aside0.mk (below_step (ws_ HB.out) hb); have n2_ := Aside0.mk (hbox); have n3_ := Aside0.mk ((by rw [hg]; exact (below_size (ws_ HB.out)) : w.heap.size ≤ gb102)); have n4_ := Aside0.mk ((by rw [hg]; exact (below_size (ws_ HB.out)) : w.heap.size ≤ gb102)); clear HO_5; clear HB; have HO_5 := n0_; have HB := n1_; have BK102 := n2_; have GW102 := n3_; have GE102 := n4_; clear n0_ n1_ n2_ n3_ n4_; clear hb hbox hg; have hcz9_0 : w8.cell? ⟨gb102, 0, none⟩ = some (.string (⟨#[]⟩ : ByteArray)) := (blk_cell BK102.out 0).trans rfl; have hcz9_1 : w8.cell? ⟨gb102, 1, none⟩ = some (.int .i64 0) := (blk_cell BK102.out 1).trans rfl; have hcz9_2 : w8.cell? ⟨gb102, 2, none⟩ = some (.int .i64 0) := (blk_cell BK102.out 2).trans rfl; have hfz9_0 := blk_frozen BK102.out 0; have hfz9_1 := blk_frozen BK102.out 1; have hfz9_2 := blk_frozen BK102.out 2) | ((with_reducible refine gate_calleeT (t := 15) rfl ?_); refine goesT_ (some 17) rfl rfl Tryz.func106 (by kernel_rfl) rfl #[.agg #[.string ((rd_T150 l0 x10_1).f0), .int .i64 ((rd_T150 l0 x10_1).f1), .int .i64 ((rd_T150 l0 x10_1).f2)]] rfl rfl (by (try simp only [List.map_toArray, List.map_cons, List.map_nil]); first | done | rfl | (simp only [List.length_drop, List.length_take]; rfl)) ?_; (with_reducible refine (market_Clear_1.calls ((rd_T150 l0 x10_1).f0) ((rd_T150 l0 x10_1).f1) ((rd_T150 l0 x10_1).f2) t103 _ A6.out).mono ?_); rintro e w10 ⟨rfl, hb⟩; refine ⟨_, rfl, ?_⟩; have n0_ := Aside0.mk (Kd.R_below (by (with_reducible repeat (first | apply Kd.R_alloc | apply Kd.R_drewN | apply Kd.R_drew)); exact (Kd.R_mono (Kd.R_far (p := ⟨gb102, 2, none⟩) (Kd.R_far (p := ⟨gb102, 1, none⟩) (Kd.R_far (p := ⟨gb102, 0, none⟩) (Kd.R_types HO_5.out BK102.out (by decide)) (fun _ hk => hk.2) (.string ((rd_T150 l0 x10_1).f0))) (fun _ hk => hk.2) (.int .i64 ((rd_T150 l0 x10_1).f1))) (fun _ hk => hk.2) (.int .i64 ((rd_T150 l0 x10_1).f2))) (fun _ h_ => h_.1))) hb); have n1_ := Aside0.mk (blk_below (g := gb102) (o := .cells #[.string ((rd_T150 l0 x10_1).f0), .int .i64 ((rd_T150 l0 x10_1).f1), .int .i64 ((rd_T150 l0 x10_1).f2)] 150 (0, 0)) (by (with_reducible repeat (first | refine blk_drewN ?_ _ | refine blk_drew ?_ | refine blk_alloc ?_ _)); refine blk_put (cs := #[.string ((rd_T150 l0 x10_1).f0), .int .i64 ((rd_T150 l0 x10_1).f1), .int .i64 0]) ?_ 2 _ rfl; (with_reducible repeat (first | refine blk_drewN ?_ _ | refine blk_drew ?_ | refine blk_alloc ?_ _)); refine blk_put (cs := #[.string ((rd_T150 l0 x10_1).f0), .int .i64 0, .int .i64 0]) ?_ 1 _ rfl; (with_reducible repeat (first | refine blk_drewN ?_ _ | refine blk_drew ?_ | refine blk_alloc ?_ _)); refine blk_put (cs := #[.string (⟨#[]⟩ : ByteArray), .int .i64 0, .int .i64 0]) ?_ 0 _ rfl; (with_reducible repeat (first | refine blk_drewN ?_ _ | refine blk_drew ?_ | refine blk_alloc ?_ _)); exact BK102.out) hb); have n2_ := Aside0.mk (below_step (wg_ HB.out GE102.out) hb); clear HO_5; clear BK102; clear HB; have HO_5 := n0_; have BK102 := n1_; have HB := n2_; clear n0_ n1_ n2_; (try clear hb); (try clear hb2); (try clear hk); (try clear hi)) | ((with_reducible refine gate_builtin (b := .append) (xs := #[.tmp 14, .tmp 18]) rfl ?_); at_builtin; refine Kd.R_append (Kd.int .i64) (w0 := w) w.heap.size rfl (.tmp 14) (.tmp 18) 52 3 (.int .i64 0) 8 rfl Tryz.underlying52 info3 rfl (by decide) (by omega) u5 x5_1 t103 [.int .i64 t103] (fun _ => True) (fun _ => False) rfl rfl ?aP (fun _ hk => hk.elim) ?aF ?aO ?aB ?aS ?aL ?_; (case aP => exact rfl); (case aB => exact (wg_ HB.out GE102.out)); (case aF => exact (fun _ _ => trivial)); (case aO => exact (rs_ HO_5.out)); (case aS => exact (below_size (wg_ HB.out GE102.out))); (case aL => have := LMc7.out; omega); intro v105 w11 ho hb hg hat; rw [← Ny104.out] at ho; have n0_ := Aside0.mk (blk_grown (g := gb102) (o := .cells #[.string ((rd_T150 l0 x10_1).f0), .int .i64 ((rd_T150 l0 x10_1).f1), .int .i64 ((rd_T150 l0 x10_1).f2)] 150 (0, 0)) (bs_ BK102.out) hg (Kd.R_ne HO_5.out BK102.out (by decide))); have n1_ := Aside0.mk (hb); have n2_ := Aside0.mk (ho); clear BK102; clear HB; clear HO_5; have BK102 := n0_; have HB := n1_; have HO106 := n2_; clear n0_ n1_ n2_; clear ho hb hg hat))
       go_roundg k1
       case measure => have := HK1.out; omega
       case rel => exact ⟨(y104), (wrap64 (x10_1 + 1)), (by first | rfl | (simp; done) | (simp [*]; done)), H', ⟨by have := HK1.out; omega⟩, ⟨by (with_reducible repeat (first | apply Kd.R_alloc | apply Kd.R_drewN | apply Kd.R_drew)); exact HO106.out⟩, ⟨by repeat (first | (with_reducible first | exact HB.out | apply below_alloc | apply pw_below_drewN | apply below_drew1 | refine below_set ?_ GE102.out) | exact HB.out)⟩⟩
      ·rw [if_neg c7] at H
       exact absurd H (by simp)
     ·rw [if_neg c5] at H
      exact absurd H (by simp)
    ·rw [if_neg c4] at H
     exact absurd H (by simp)
   ·rw [if_neg c3] at H
    have c3b0 : decide (x10_1 < (l0.length : Int)) = false := decide_eq_false c3
    clear c3
    obtain rfl := Option.some.inj H
    go_wp2
    go_ret
    exact ⟨_, by first | rfl | (simp [errW_none, errW_some] <;> rfl) | (simp [*, errW_none, errW_some] <;> rfl), by (with_reducible repeat (first | apply Kd.R_alloc | apply Kd.R_drewN | apply Kd.R_drew)); exact HO_5.out, by repeat (first | (with_reducible first | exact HB.out | apply below_alloc | apply pw_below_drewN | apply below_drew1) | exact HB.out)⟩
/-! ### market_Clear_2: function 107 -/
def market_Clear_2.f (a0_0 : ByteArray) (a0_1 : Int) (a0_2 : Int) : Option (Int) := some a0_2
set_option maxHeartbeats 8000000 in
set_option maxRecDepth 100000 in
theorem market_Clear_2.calls (a0_0 : ByteArray) (a0_1 : Int) (a0_2 : Int) (r : Int) (w : World) (h : market_Clear_2.f a0_0 a0_1 a0_2 = some r) :
  Calls Tryz.prog 107 #[.agg #[.string a0_0, .int .i64 a0_1, .int .i64 a0_2]] w fun e w' => e = .returned (.int .i64 r) ∧ Below w.heap.size w w' := by
 have hu150 := Tryz.underlying150
 have HB := Aside0.mk (Below.refl w.heap.size w)
 have H : (some a0_2) = some r := h
 clear h
 obtain rfl := Option.some.inj H
 go_enter Tryz.func107, Tryz.ntmps107
 go_wp2_with (first | ((with_reducible refine gate_dst (N := 1) rfl ?_); refine box_event ?hg (N := 1) ?hd (cs := #[.string a0_0, .int .i64 a0_1, .int .i64 a0_2]) (t := 150) ?hr ?_; (case hd => rfl); (case hg => rfl); (case hr => first | (go_simp; done) | (go_simp; rfl)); intro gb101 hg w2 hbox hb; have n0_ := Aside0.mk (below_step (ws_ HB.out) hb); have n1_ := Aside0.mk (hbox); have n2_ := Aside0.mk ((by rw [hg]; exact (below_size (ws_ HB.out)) : w.heap.size ≤ gb101)); have n3_ := Aside0.mk ((by rw [hg]; exact (below_size (ws_ HB.out)) : w.heap.size ≤ gb101)); clear HB; have HB := n0_; have BK101 := n1_; have GW101 := n2_; have GE101 := n3_; clear n0_ n1_ n2_ n3_; clear hb hbox hg; have hcz3_0 : w2.cell? ⟨gb101, 0, none⟩ = some (.string a0_0) := (blk_cell BK101.out 0).trans rfl; have hcz3_1 : w2.cell? ⟨gb101, 1, none⟩ = some (.int .i64 a0_1) := (blk_cell BK101.out 1).trans rfl; have hcz3_2 : w2.cell? ⟨gb101, 2, none⟩ = some (.int .i64 a0_2) := (blk_cell BK101.out 2).trans rfl; have hfz3_0 := blk_frozen BK101.out 0; have hfz3_1 := blk_frozen BK101.out 1; have hfz3_2 := blk_frozen BK101.out 2))
 go_ret
 exact ⟨by first | rfl | (simp [errW_none, errW_some] <;> rfl) | (simp [*, errW_none, errW_some] <;> rfl), by repeat (first | (with_reducible first | exact HB.out | apply below_alloc | apply pw_below_drewN | apply below_drew1 | refine below_set ?_ GE101.out) | exact HB.out)⟩
/-! ### market_Bid_int__market_Clear_2: function 105 -/
def market_Bid_int__market_Clear_2.l0 : Nat → List Int → List (S150) → Int → Int → Option (List Int)
 | 0, _, _, _, _ => none
 | k + 1, x5, x8, x9, x10 => if x10 < x9 then (if 0 ≤ x10 then (if x10 < (x8.length : Int) then ((market_Clear_2.f ((rd_T150 x8 x10).f0) ((rd_T150 x8 x10).f1) ((rd_T150 x8 x10).f2)).bind fun t103 => (if x5.length < 17592186044416 then (market_Bid_int__market_Clear_2.l0 k (x5 ++ [t103]) x8 x9 (wrap64 (x10 + 1))) else (none))) else (none)) else (none)) else (some x5)
def market_Bid_int__market_Clear_2.f (k : Nat) (l0 : List (S150)) (a1 : Unit) : Option (List Int) := market_Bid_int__market_Clear_2.l0 k ([] : List Int) l0 (l0.length : Int) 0
set_option maxHeartbeats 8000000 in
set_option maxRecDepth 100000 in
theorem market_Bid_int__market_Clear_2.calls (k : Nat) (A0 : Option Addr) (c0 : Nat) (l0 : List (S150)) (a1 : Unit) (r : List Int) (w : World) (hr0 : Kd.C k150 w A0 l0.length l0) (hc0 : l0.length ≤ c0) (h : market_Bid_int__market_Clear_2.f k l0 a1 = some r) :
  Calls Tryz.prog 105 #[.slice A0 l0.length c0, .func (.func 107) #[] #[]] w fun e w' => ∃ v0_ : Value, e = .returned (v0_) ∧ Kd.R (Kd.int .i64) 3 w' w.heap.size (fun _ => True) v0_ r ∧ Below w.heap.size w w' := by
 have hu150 := Tryz.underlying150
 have HR0 := Aside0.mk hr0
 have HC0 := Aside0.mk hc0
 clear hr0 hc0
 have HB := Aside0.mk (Below.refl w.heap.size w)
 have H : (market_Bid_int__market_Clear_2.l0 k ([] : List Int) l0 (l0.length : Int) 0) = some r := h
 clear h
 have H' := Aside0.mk H
 clear H
 go_enter Tryz.func105, Tryz.ntmps105
 go_wp2
 go_loopg [5, 10] k (fun kq v5 v10 w' => ∃ (x5_1 : List Int) (x10_1 : Int), v10 = .int .i64 x10_1 ∧ Aside0 (market_Bid_int__market_Clear_2.l0 kq x5_1 l0 (l0.length : Int) x10_1 = some r) ∧ Aside0 (kq ≤ k) ∧ Aside0 (Kd.R (Kd.int .i64) 3 w' w.heap.size (fun _ => True) v5 x5_1) ∧ Aside0 (Below w.heap.size w w'))
 case atStart => exact ⟨(([] : List Int)), (0), (by first | rfl | (simp; done) | (simp [*]; done)), H', ⟨Nat.le_refl _⟩, ⟨by first | exact Kd.R_nil _ _ _ _ _ | exact Kd.N_nil _ _ _ _ _ | exact Kd.V_nil _ _ _ _ _ | exact Kd.Q_nil _ _ _ _ _ | exact Kd.S_nil _ _ _ _ _⟩, ⟨by repeat (first | (with_reducible first | exact HB.out | apply below_alloc | apply pw_below_drewN | apply below_drew1) | exact HB.out)⟩⟩
 case round =>
  clear H'
  try clear c1
  try clear p2
  obtain ⟨x5_1, x10_1, rfl, HA, HK1, HO_5, HB⟩ := hrel
  cases gk with
  | zero => exact absurd HA.out (by simp [market_Bid_int__market_Clear_2.l0])
  | succ k1 =>
   have H := HA.out
   clear HA
   simp only [market_Bid_int__market_Clear_2.l0] at H
   by_cases c3 : x10_1 < (l0.length : Int)
   ·rw [if_pos c3] at H
    have c3b0 : decide (x10_1 < (l0.length : Int)) = true := decide_eq_true c3
    clear c3
    by_cases c4 : 0 ≤ x10_1
    ·rw [if_pos c4] at H
     have c4b0 : decide (0 ≤ x10_1) = true := decide_eq_true c4
     clear c4
     by_cases c5 : x10_1 < (l0.length : Int)
     ·rw [if_pos c5] at H
      have c5b0 : decide (x10_1 < (l0.length : Int)) = true := decide_eq_true c5
      clear c5
      replace H := Option.bind_eq_some_iff.mp H
      obtain ⟨t103, A60, H⟩ := H
      replace H : (if x5_1.length < 17592186044416 then (market_Bid_int__market_Clear_2.l0 k1 (x5_1 ++ [t103]) l0 (l0.length : Int) (wrap64 (x10_1 + 1))) else (none)) = some r := H
      have A6 := Aside0.mk A60
      clear A60
      by_cases c7 : x5_1.length < 17592186044416
      ·rw [if_pos c7] at H
       have LMc7 := Aside0.mk c7
       clear c7
       obtain ⟨y104, hy104⟩ : ∃ y_ : List Int, y_ = (x5_1 ++ [t103]) := ⟨_, rfl⟩
       replace H : (market_Bid_int__market_Clear_2.l0 k1 y104 l0 (l0.length : Int) (wrap64 (x10_1 + 1))) = some r := by first | (rw [hy104]; with_reducible exact H) | (have H2_ := (Option.bind_some _ _).symm.trans H; rw [hy104]; with_reducible exact H2_) | (have H2_ := (Option.bind_some _ _).symm.trans H; with_reducible exact H2_) | with_reducible exact H | (rw [hy104]; exact H) | exact H
       have Ny104 := Aside0.mk hy104
       clear hy104
       have H' := Aside0.mk H
       clear H
       have p101 : 0 ≤ (x10_1 : Int) := of_decide_eq_true (by first | (with_reducible assumption) | assumption)
       have q101 : x10_1 < (l0.length : Int) := of_decide_eq_true (by first | (with_reducible assumption) | assumption)
       obtain ⟨ad101, e101, hx101_0, hx101_1, hx101_2⟩ := at_T150 HR0.out x10_1 p101 q101
       cases e101
       replace hx101_0 := (HB.out.cell (World.block_lt_of_cell? w _ hx101_0)).trans hx101_0
       replace hx101_1 := (HB.out.cell (World.block_lt_of_cell? w _ hx101_1)).trans hx101_1
       replace hx101_2 := (HB.out.cell (World.block_lt_of_cell? w _ hx101_2)).trans hx101_2
       replace p101 := eq_true p101
       replace q101 := eq_true q101
       go_wp2_with (first | ((with_reducible refine gate_dst (N := 7) rfl ?_); refine box_event ?hg (N := 7) ?hd (cs := #[.string (⟨#[]⟩ : ByteArray), .int .i64 0, .int .i64 0]) (t := 150) ?hr ?_; (case hd => rfl); (case hg => rfl); (case hr => first | (go_simp; done) | (go_simp; rfl)); intro gb102 hg w8 hbox hb; have n0_ := Aside0.mk (Kd.R_below (rs_ HO_5.out) hb); have n1_ := Aside0.mk (below_step (ws_ HB.out) hb); have n2_ := Aside0.mk (hbox); have n3_ := Aside0.mk ((by rw [hg]; exact (below_size (ws_ HB.out)) : w.heap.size ≤ gb102)); have n4_ := Aside0.mk ((by rw [hg]; exact (below_size (ws_ HB.out)) : w.heap.size ≤ gb102)); clear HO_5; clear HB; have HO_5 := n0_; have HB := n1_; have BK102 := n2_; have GW102 := n3_; have GE102 := n4_; clear n0_ n1_ n2_ n3_ n4_; clear hb hbox hg; have hcz9_0 : w8.cell? ⟨gb102, 0, none⟩ = some (.string (⟨#[]⟩ : ByteArray)) := (blk_cell BK102.out 0).trans rfl; have hcz9_1 : w8.cell? ⟨gb102, 1, none⟩ = some (.int .i64 0) := (blk_cell BK102.out 1).trans rfl; have hcz9_2 : w8.cell? ⟨gb102, 2, none⟩ = some (.int .i64 0) := (blk_cell BK102.out 2).trans rfl; have hfz9_0 := blk_frozen BK102.out 0; have hfz9_1 := blk_frozen BK102.out 1; have hfz9_2 := blk_frozen BK102.out 2) | ((with_reducible refine gate_calleeT (t := 15) rfl ?_); refine goesT_ (some 17) rfl rfl Tryz.func107 (by kernel_rfl) rfl #[.agg #[.string ((rd_T150 l0 x10_1).f0), .int .i64 ((rd_T150 l0 x10_1).f1), .int .i64 ((rd_T150 l0 x10_1).f2)]] rfl rfl (by (try simp only [List.map_toArray, List.map_cons, List.map_nil]); first | done | rfl | (simp only [List.length_drop, List.length_take]; rfl)) ?_; (with_reducible refine (market_Clear_2.calls ((rd_T150 l0 x10_1).f0) ((rd_T150 l0 x10_1).f1) ((rd_T150 l0 x10_1).f2) t103 _ A6.out).mono ?_); rintro e w10 ⟨rfl, hb⟩; refine ⟨_, rfl, ?_⟩; have n0_ := Aside0.mk (Kd.R_below (by (with_reducible repeat (first | apply Kd.R_alloc | apply Kd.R_drewN | apply Kd.R_drew)); exact (Kd.R_mono (Kd.R_far (p := ⟨gb102, 2, none⟩) (Kd.R_far (p := ⟨gb102, 1, none⟩) (Kd.R_far (p := ⟨gb102, 0, none⟩) (Kd.R_types HO_5.out BK102.out (by decide)) (fun _ hk => hk.2) (.string ((rd_T150 l0 x10_1).f0))) (fun _ hk => hk.2) (.int .i64 ((rd_T150 l0 x10_1).f1))) (fun _ hk => hk.2) (.int .i64 ((rd_T150 l0 x10_1).f2))) (fun _ h_ => h_.1))) hb); have n1_ := Aside0.mk (blk_below (g := gb102) (o := .cells #[.string ((rd_T150 l0 x10_1).f0), .int .i64 ((rd_T150 l0 x10_1).f1), .int .i64 ((rd_T150 l0 x10_1).f2)] 150 (0, 0)) (by (with_reducible repeat (first | refine blk_drewN ?_ _ | refine blk_drew ?_ | refine blk_alloc ?_ _)); refine blk_put (cs := #[.string ((rd_T150 l0 x10_1).f0), .int .i64 ((rd_T150 l0 x10_1).f1), .int .i64 0]) ?_ 2 _ rfl; (with_reducible repeat (first | refine blk_drewN ?_ _ | refine blk_drew ?_ | refine blk_alloc ?_ _)); refine blk_put (cs := #[.string ((rd_T150 l0 x10_1).f0), .int .i64 0, .int .i64 0]) ?_ 1 _ rfl; (with_reducible repeat (first | refine blk_drewN ?_ _ | refine blk_drew ?_ | refine blk_alloc ?_ _)); refine blk_put (cs := #[.string (⟨#[]⟩ : ByteArray), .int .i64 0, .int .i64 0]) ?_ 0 _ rfl; (with_reducible repeat (first | refine blk_drewN ?_ _ | refine blk_drew ?_ | refine blk_alloc ?_ _)); exact BK102.out) hb); have n2_ := Aside0.mk (below_step (wg_ HB.out GE102.out) hb); clear HO_5; clear BK102; clear HB; have HO_5 := n0_; have BK102 := n1_; have HB := n2_; clear n0_ n1_ n2_; (try clear hb); (try clear hb2); (try clear hk); (try clear hi)) | ((with_reducible refine gate_builtin (b := .append) (xs := #[.tmp 14, .tmp 18]) rfl ?_); at_builtin; refine Kd.R_append (Kd.int .i64) (w0 := w) w.heap.size rfl (.tmp 14) (.tmp 18) 52 3 (.int .i64 0) 8 rfl Tryz.underlying52 info3 rfl (by decide) (by omega) u5 x5_1 t103 [.int .i64 t103] (fun _ => True) (fun _ => False) rfl rfl ?aP (fun _ hk => hk.elim) ?aF ?aO ?aB ?aS ?aL ?_; (case aP => exact rfl); (case aB => exact (wg_ HB.out GE102.out)); (case aF => exact (fun _ _ => trivial)); (case aO => exact (rs_ HO_5.out)); (case aS => exact (below_size (wg_ HB.out GE102.out))); (case aL => have := LMc7.out; omega); intro v105 w11 ho hb hg hat; rw [← Ny104.out] at ho; have n0_ := Aside0.mk (blk_grown (g := gb102) (o := .cells #[.string ((rd_T150 l0 x10_1).f0), .int .i64 ((rd_T150 l0 x10_1).f1), .int .i64 ((rd_T150 l0 x10_1).f2)] 150 (0, 0)) (bs_ BK102.out) hg (Kd.R_ne HO_5.out BK102.out (by decide))); have n1_ := Aside0.mk (hb); have n2_ := Aside0.mk (ho); clear BK102; clear HB; clear HO_5; have BK102 := n0_; have HB := n1_; have HO106 := n2_; clear n0_ n1_ n2_; clear ho hb hg hat))
       go_roundg k1
       case measure => have := HK1.out; omega
       case rel => exact ⟨(y104), (wrap64 (x10_1 + 1)), (by first | rfl | (simp; done) | (simp [*]; done)), H', ⟨by have := HK1.out; omega⟩, ⟨by (with_reducible repeat (first | apply Kd.R_alloc | apply Kd.R_drewN | apply Kd.R_drew)); exact HO106.out⟩, ⟨by repeat (first | (with_reducible first | exact HB.out | apply below_alloc | apply pw_below_drewN | apply below_drew1 | refine below_set ?_ GE102.out) | exact HB.out)⟩⟩
      ·rw [if_neg c7] at H
       exact absurd H (by simp)
     ·rw [if_neg c5] at H
      exact absurd H (by simp)
    ·rw [if_neg c4] at H
     exact absurd H (by simp)
   ·rw [if_neg c3] at H
    have c3b0 : decide (x10_1 < (l0.length : Int)) = false := decide_eq_false c3
    clear c3
    obtain rfl := Option.some.inj H
    go_wp2
    go_ret
    exact ⟨_, by first | rfl | (simp [errW_none, errW_some] <;> rfl) | (simp [*, errW_none, errW_some] <;> rfl), by (with_reducible repeat (first | apply Kd.R_alloc | apply Kd.R_drewN | apply Kd.R_drew)); exact HO_5.out, by repeat (first | (with_reducible first | exact HB.out | apply below_alloc | apply pw_below_drewN | apply below_drew1) | exact HB.out)⟩
end Go.Proofs.YtfdlhbdcejlopaaGreatDoor.B
namespace Go.Proofs.YtfdlhbdcejlopaaGreatDoor.B
open Go.RowKit Go.Proofs.YtfdlhbdcejlopaaGreatDoorW.PrintWords Go.Proofs.YtfdlhbdcejlopaaGreatDoorW.PrintLast Go.Proofs.YtfdlhbdcejlopaaGreatDoorW.PrintMore
set_option linter.unusedVariables false
set_option linter.unusedSimpArgs false
set_option maxHeartbeats 4000000 in
set_option maxRecDepth 100000 in
theorem nameIs.calls (f0 : ByteArray) (f1 f2 : Int) (n : ByteArray) (b : Nat) (w : World) (hp : w.cell? ⟨b, 0, none⟩ = some (.string n)) :
  Calls Tryz.prog 114 #[.agg #[.string f0, .int .i64 f1, .int .i64 f2], .pointer (some ⟨b, 0, none⟩)] w fun e w' => e = .returned (.bool (f0.toList == n.toList)) ∧ Below w.heap.size w w' := by
 have hu150 := Tryz.underlying150
 have hpA := Aside0.mk hp
 have hb := World.block_lt_of_cell? _ _ hp
 clear hp
 go_enter Tryz.func114, Tryz.ntmps114
 have hp2 : (w.alloc (.cells #[.string f0, .int .i64 f1, .int .i64 f2] 150)).cell? ⟨b, 0, none⟩ = some (.string n) := (Below.cell (below_alloc (Below.refl w.heap.size w) _) hb).trans hpA.out
 clear hb
 go_wp2
 go_ret
 exact ⟨rfl, below_alloc (Below.refl _ _) _⟩
def hasName (l : List S150) (n : ByteArray) : Bool := l.any fun o => o.f0.toList == n.toList
def idxName : List S150 → ByteArray → Nat → Int
 | [], _, _ => -1
 | o :: l, n, k => if o.f0.toList == n.toList then (k : Int) else idxName l n (k + 1)
theorem idxName_cons (o : S150) (l : List S150) (n : ByteArray) (k : Nat) : idxName (o :: l) n k = if o.f0.toList == n.toList then (k : Int) else idxName l n (k + 1) := rfl
theorem idxName_nil (n : ByteArray) (k : Nat) : idxName [] n k = -1 := rfl
theorem idxName_has (n : ByteArray) : ∀ (l : List S150) (k : Nat), decide (0 ≤ idxName l n k) = hasName l n
 | [], k => rfl
 | o :: l, k => by
  unfold idxName hasName
  rw [List.any_cons]
  by_cases h : (o.f0.toList == n.toList) = true
  ·rw [if_pos h, h]
   simp
  ·rw [if_neg h, idxName_has n l (k + 1)]
   rw [Bool.not_eq_true] at h
   rw [h]
   rfl
set_option maxHeartbeats 4000000 in
set_option maxRecDepth 100000 in
theorem indexName.calls (A0 : Option Addr) (c0 : Nat) (l : List S150) (n : ByteArray) (b : Nat) (w : World) (hr0 : Kd.C k150 w A0 l.length l) (hp : w.cell? ⟨b, 0, none⟩ = some (.string n)) (hl : l.length < 1099511627776) :
  Calls Tryz.prog 150 #[.slice A0 l.length c0, .func (.func 114) #[] #[.pointer (some ⟨b, 0, none⟩)]] w fun e w' => e = .returned (.int .i64 (idxName l n 0)) ∧ Below w.heap.size w w' := by
 have HR0 := Aside0.mk hr0
 have HP := Aside0.mk hp
 have HL := Aside0.mk hl
 clear hr0 hp hl
 go_enter Tryz.func150, Tryz.ntmps150
 go_wp2
 go_loopw [5, 8] (fun v5 v8 w' => ∃ (k : Int), v8 = .int .i64 k ∧ Aside0 (0 ≤ k ∧ k ≤ l.length) ∧ Aside0 (idxName l n 0 = idxName (l.drop k.toNat) n k.toNat) ∧ Aside0 (Below w.heap.size w w')) (fun v5 v8 _ => l.length - (intOf v8).toNat)
 case atStart => exact ⟨0, rfl, ⟨by omega⟩, ⟨rfl⟩, ⟨Below.refl _ _⟩⟩
 case round =>
  obtain ⟨k, rfl, HK, HI, HB⟩ := hrel
  by_cases hk : k < (l.length : Int)
  ·have c0b : decide (k < (l.length : Int)) = true := decide_eq_true hk
   obtain ⟨ad, rfl, hx0, hx1, hx2⟩ := at_T150 HR0.out k HK.out.1 hk
   obtain ⟨s, hs⟩ : ∃ s, rd_T150 l k = s := ⟨_, rfl⟩
   have hdrop : l.drop k.toNat = s :: l.drop (k + 1).toNat := by
    have hk0 := HK.out.1
    have h1 : k.toNat < l.length := by omega
    rw [List.drop_eq_getElem_cons h1, show (k + 1).toNat = k.toNat + 1 from by omega, ← hs, rd_T150, List.getD_eq_getElem?_getD, List.getElem?_eq_getElem h1]
    rfl
   have hi := HI.out
   rw [hdrop, idxName_cons] at hi
   have HI2 := Aside0.mk hi
   rw [hs] at hx0 hx1 hx2
   replace hx0 := (HB.out.cell (World.block_lt_of_cell? w _ hx0)).trans hx0
   replace hx1 := (HB.out.cell (World.block_lt_of_cell? w _ hx1)).trans hx1
   replace hx2 := (HB.out.cell (World.block_lt_of_cell? w _ hx2)).trans hx2
   have b0 : (0 ≤ k) = True := eq_true HK.out.1
   have b1 : (k < (l.length : Int)) = True := eq_true hk
   have HK1 := Aside0.mk hk
   have hwr : wrap64 (k + 1) = k + 1 := w64 _ (by have := HK.out; have := HL.out; omega)
   have HWR := Aside0.mk hwr
   have HD := Aside0.mk hdrop
   clear hi hs hdrop hk hwr
   by_cases hc : (s.f0.toList == n.toList) = true
   ·have HC := Aside0.mk hc
    clear hc
    go_wp2_with (first
     | ((with_reducible refine gate_calleeT (t := 11) rfl ?_)
       refine goesTB_ (some 16) rfl rfl Tryz.func114 (by kernel_rfl) rfl #[.agg #[.string s.f0, .int .i64 s.f1, .int .i64 s.f2]] #[.pointer (some ⟨b, 0, none⟩)] #[.agg #[.string s.f0, .int .i64 s.f1, .int .i64 s.f2], .pointer (some ⟨b, 0, none⟩)] rfl rfl rfl (by (try simp only [List.map_toArray, List.map_cons, List.map_nil]); first | done | rfl) ?_
       refine (nameIs.calls s.f0 s.f1 s.f2 n b _ ((HB.out.cell (World.block_lt_of_cell? _ _ HP.out)).trans HP.out)).mono ?_
       rintro e w7 ⟨rfl, hb⟩
       rw [HC.out]
       refine ⟨_, rfl, ?_⟩
       have HB2 := Aside0.mk (below_step HB.out hb)
       clear HB hb
       have HB := HB2
       clear HB2))
    go_ret
    refine ⟨?_, HB.out⟩
    rw [HI2.out, if_pos HC.out, Int.toNat_of_nonneg HK.out.1]
    rfl
   ·rw [Bool.not_eq_true] at hc
    have HC := Aside0.mk hc
    clear hc
    go_wp2_with (first
     | ((with_reducible refine gate_calleeT (t := 11) rfl ?_)
       refine goesTB_ (some 16) rfl rfl Tryz.func114 (by kernel_rfl) rfl #[.agg #[.string s.f0, .int .i64 s.f1, .int .i64 s.f2]] #[.pointer (some ⟨b, 0, none⟩)] #[.agg #[.string s.f0, .int .i64 s.f1, .int .i64 s.f2], .pointer (some ⟨b, 0, none⟩)] rfl rfl rfl (by (try simp only [List.map_toArray, List.map_cons, List.map_nil]); first | done | rfl) ?_
       refine (nameIs.calls s.f0 s.f1 s.f2 n b _ ((HB.out.cell (World.block_lt_of_cell? _ _ HP.out)).trans HP.out)).mono ?_
       rintro e w7 ⟨rfl, hb⟩
       rw [HC.out]
       refine ⟨_, rfl, ?_⟩
       have HB2 := Aside0.mk (below_step HB.out hb)
       clear HB hb
       have HB := HB2
       clear HB2))
    go_roundw
    case rel =>
     refine ⟨k + 1, ?_, ⟨by have := HK.out; have := HK1.out; omega⟩, ⟨?_⟩, HB⟩
     ·rw [HWR.out]
     ·rw [HI2.out, HC.out, if_neg (by decide), show (k + 1).toNat = k.toNat + 1 from by have := HK.out; omega]
    case measure =>
     have h1 := HK.out
     have h2 := HK1.out
     rw [HWR.out]
     clear HWR
     simp [intOf]
     omega
  ·have c0b : decide (k < (l.length : Int)) = false := decide_eq_false hk
   have hi := HI.out
   rw [List.drop_of_length_le (by have := HK.out; omega), idxName_nil] at hi
   have HI2 := Aside0.mk hi
   clear hi
   go_wp2
   go_ret
   exact ⟨by rw [HI2.out]; rfl, HB.out⟩
set_option maxHeartbeats 4000000 in
set_option maxRecDepth 100000 in
theorem containsName.calls (A0 : Option Addr) (c0 : Nat) (l : List S150) (n : ByteArray) (b : Nat) (w : World) (hr0 : Kd.C k150 w A0 l.length l) (hp : w.cell? ⟨b, 0, none⟩ = some (.string n)) (hl : l.length < 1099511627776) :
  Calls Tryz.prog 113 #[.slice A0 l.length c0, .func (.func 114) #[] #[.pointer (some ⟨b, 0, none⟩)]] w fun e w' => e = .returned (.bool (hasName l n)) ∧ Below w.heap.size w w' := by
 have hcon := indexName.calls A0 c0 l n b w hr0 hp hl
 have HH := Aside0.mk (idxName_has n l 0)
 clear hr0 hp hl
 generalize idxName l n 0 = r at hcon HH
 go_enter Tryz.func113, Tryz.ntmps113
 go_wp2_with (first
  | ((with_reducible refine gate_callee (f := 150) rfl ?_)
    refine goesL_ (some 7) rfl rfl Tryz.func150 (by kernel_rfl) rfl #[.slice A0 l.length c0, .func (.func 114) #[] #[.pointer (some ⟨b, 0, none⟩)]] rfl (by (try simp only [List.map_toArray, List.map_cons, List.map_nil]); first | done | rfl) ?_
    refine hcon.mono ?_
    rintro e w7 ⟨rfl, hb⟩
    refine ⟨_, rfl, ?_⟩
    have HB := Aside0.mk hb
    clear hb hcon))
 go_ret
 exact ⟨by rw [← HH.out]; rfl, HB.out⟩
def containsN.f (l : List S150) (n : ByteArray) (f1 f2 : Int) : Option Bool := if l.length < 1099511627776 then some (hasName l n) else none
theorem containsN.calls (A0 : Option Addr) (c0 : Nat) (l : List S150) (n : ByteArray) (f1 f2 : Int) (r : Bool) (w : World) (hr0 : Kd.C k150 w A0 l.length l) (hc0 : l.length ≤ c0) (h : containsN.f l n f1 f2 = some r) (b : Nat) (hp : w.cell? ⟨b, 0, none⟩ = some (.string n)) :
  Calls Tryz.prog 113 #[.slice A0 l.length c0, .func (.func 114) #[] #[.pointer (some ⟨b, 0, none⟩)]] w fun e w' => e = .returned (.bool r) ∧ Below w.heap.size w w' := by
 unfold containsN.f at h
 split at h
 case isFalse => cases h
 rw [← Option.some.inj h]
 exact containsName.calls A0 c0 l n b w hr0 hp (by assumption)
def nameByte (i : Nat) (c : Int) : Bool := decide (65 ≤ c ∧ c ≤ 90) || decide (97 ≤ c ∧ c ≤ 122) || (decide (i ≠ 0) && (decide (c = 95) || decide (48 ≤ c ∧ c ≤ 57)))
def nameAll (s : ByteArray) (n : Nat) : Bool := (List.range n).all fun i => nameByte i (bt s i)
def isNameV (s : ByteArray) : Bool := decide (s.size ≤ 24) && nameAll s s.size && decide (s.size ≠ 0)
def site_IsName.f (a0 : ByteArray) : Option Bool := some (isNameV a0)
theorem nameAll_succ (s : ByteArray) (n : Nat) : nameAll s (n + 1) = (nameAll s n && nameByte n (bt s n)) := by
 unfold nameAll
 rw [List.range_succ, List.all_append]
 simp
theorem nameAll_false (s : ByteArray) (n m : Nat) (h : n < m) (hb : nameByte n (bt s n) = false) : nameAll s m = false := by
 unfold nameAll
 rw [List.all_eq_false]
 exact ⟨n, List.mem_range.2 h, by simp [hb]⟩
theorem below_iter (w : World) (s : ByteArray) (pos : Nat) : Below w.heap.size w (w.iter s pos) := (Below.refl _ w).alloc (Nat.le_refl _) _
theorem dec_byte (s : ByteArray) (pos : Nat) (h : pos < s.size) : (((Utf8.decode s pos).1 : Int) = bt s pos ∧ bt s pos < 128 ∧ (Utf8.decode s pos).2 = 1) ∨ (128 ≤ ((Utf8.decode s pos).1 : Int) ∧ 128 ≤ bt s pos) := by
 have hb : bt s pos = ((s[pos]'h).toNat : Int) := (bt_at s pos (by simpa using h)).symm
 by_cases ha : (s[pos]'h).toNat < 128
 ·left
  rw [decode_ascii s pos h ha, hb]
  refine ⟨rfl, by omega, rfl⟩
 ·right
  have := (decode_high s pos h (by omega)).1
  rw [hb]
  omega
theorem nb_hi (i : Nat) (c : Int) (h : 128 ≤ c) : nameByte i c = false := by
 unfold nameByte
 simp
 omega
theorem nb_cases (c : Int) : c < 48 ∨ (48 ≤ c ∧ c ≤ 57) ∨ (58 ≤ c ∧ c < 65) ∨ (65 ≤ c ∧ c ≤ 90) ∨ (91 ≤ c ∧ c < 95) ∨ c = 95 ∨ c = 96 ∨ (97 ≤ c ∧ c ≤ 122) ∨ (123 ≤ c ∧ c < 128) ∨ 128 ≤ c := by omega
set_option maxRecDepth 100000 in
set_option maxHeartbeats 8000000 in
theorem site_IsName.calls (a0 : ByteArray) (r : Bool) (w : World) (h : site_IsName.f a0 = some r) :
  Calls Tryz.prog 115 #[.string a0] w fun e w' => e = .returned (.bool r) ∧ Below w.heap.size w w' := by
 have hR := Aside0.mk (Option.some.inj h)
 clear h
 by_cases h24 : 24 < a0.size
 ·have hr : r = false := by
   rw [← hR.out]
   unfold isNameV
   rw [show decide (a0.size ≤ 24) = false from decide_eq_false (by omega)]
   rfl
  have b1 : decide ((24 : Int) < (a0.size : Int)) = true := decide_eq_true (by omega)
  go_enter Tryz.func115, Tryz.ntmps115
  go_wp2
  go_ret
  exact ⟨by rw [hr]; rfl, Below.refl _ _⟩
 ·have b1 : decide ((24 : Int) < (a0.size : Int)) = false := decide_eq_false (by omega)
  go_enter Tryz.func115, Tryz.ntmps115
  go_wp2
  go_loopw [2] (fun v w' => v = .bool false ∧ ∃ pos : Nat, w' = w.iter a0 pos ∧ Aside0 (pos ≤ a0.size) ∧ Aside0 (nameAll a0 pos = true)) (fun _ w' => a0.size - w'.iterPos w.heap.size)
  case atStart => exact ⟨rfl, 0, rfl, ⟨Nat.zero_le _⟩, ⟨rfl⟩⟩
  case round =>
   obtain ⟨rfl, pos, rfl, HL, HA⟩ := hrel
   by_cases hp : pos < a0.size
   ·have hnx : ∀ ty, (Instr.next (.pointer (some ⟨w.heap.size, 0, none⟩)) true ty).run Tryz.prog (w.iter a0 pos) = _ := fun ty => run_next_any w a0 pos ty hp
    have hd := Aside0.mk (dec_byte a0 pos hp)
    obtain ⟨c, hc⟩ : ∃ c : Int, ((Utf8.decode a0 pos).1 : Int) = c := ⟨_, rfl⟩
    obtain ⟨k, hk⟩ : ∃ k : Nat, (Utf8.decode a0 pos).2 = k := ⟨_, rfl⟩
    rw [hc, hk] at hnx hd
    clear hc hk
    have hpA := Aside0.mk hp
    clear hp
    rcases nb_cases c with hq | hq | hq | hq | hq | hq | hq | hq | hq | hq
    ·have f0 : decide ((65 : Int) ≤ c) = false := decide_eq_false (by omega)
     have f1 : decide (c ≤ (90 : Int)) = true := decide_eq_true (by omega)
     have f2 : decide ((97 : Int) ≤ c) = false := decide_eq_false (by omega)
     have f3 : decide (c ≤ (122 : Int)) = true := decide_eq_true (by omega)
     have f4 : (c == (95 : Int)) = false := beq_eq_false_iff_ne.mpr (by omega)
     have f5 : (c != (95 : Int)) = true := bne_iff_ne.mpr (by omega)
     have f6 : decide (c < (48 : Int)) = true := decide_eq_true (by omega)
     have f7 : decide ((57 : Int) < c) = false := decide_eq_false (by omega)
     by_cases h0 : pos = 0
     ·subst h0
      have g0 : (((0 : Nat) : Int) == 0) = true := rfl
      go_wp2
      go_ret
      refine ⟨?_, below_iter _ _ _⟩
      have hnb : nameByte 0 (bt a0 (0 : Nat)) = false := by
       rcases hd.out with ⟨he, _, _⟩ | ⟨_, he⟩
       ·rw [← he]; unfold nameByte; simp; omega
       ·exact nb_hi _ _ he
      rw [← hR.out]; unfold isNameV; rw [nameAll_false a0 0 a0.size hpA.out hnb]; simp
     ·have g0 : ((pos : Int) == 0) = false := beq_eq_false_iff_ne.mpr (by omega)
      go_wp2
      go_ret
      refine ⟨?_, below_iter _ _ _⟩
      have hnb : nameByte pos (bt a0 pos) = false := by
       rcases hd.out with ⟨he, _, _⟩ | ⟨_, he⟩
       ·rw [← he]; unfold nameByte; simp; omega
       ·exact nb_hi _ _ he
      rw [← hR.out]; unfold isNameV; rw [nameAll_false a0 pos a0.size hpA.out hnb]; simp
    ·have f0 : decide ((65 : Int) ≤ c) = false := decide_eq_false (by omega)
     have f1 : decide (c ≤ (90 : Int)) = true := decide_eq_true (by omega)
     have f2 : decide ((97 : Int) ≤ c) = false := decide_eq_false (by omega)
     have f3 : decide (c ≤ (122 : Int)) = true := decide_eq_true (by omega)
     have f4 : (c == (95 : Int)) = false := beq_eq_false_iff_ne.mpr (by omega)
     have f5 : (c != (95 : Int)) = true := bne_iff_ne.mpr (by omega)
     have f6 : decide (c < (48 : Int)) = false := decide_eq_false (by omega)
     have f7 : decide ((57 : Int) < c) = false := decide_eq_false (by omega)
     by_cases h0 : pos = 0
     ·subst h0
      have g0 : (((0 : Nat) : Int) == 0) = true := rfl
      go_wp2
      go_ret
      refine ⟨?_, below_iter _ _ _⟩
      have hnb : nameByte 0 (bt a0 (0 : Nat)) = false := by
       rcases hd.out with ⟨he, _, _⟩ | ⟨_, he⟩
       ·rw [← he]; unfold nameByte; simp; omega
       ·exact nb_hi _ _ he
      rw [← hR.out]; unfold isNameV; rw [nameAll_false a0 0 a0.size hpA.out hnb]; simp
     ·have g0 : ((pos : Int) == 0) = false := beq_eq_false_iff_ne.mpr (by omega)
      go_wp2
      go_roundw
      case rel =>
       rcases hd.out with ⟨he, hlt, rfl⟩ | ⟨hge, he⟩
       ·refine ⟨rfl, pos + 1, rfl, ⟨hpA.out⟩, ⟨?_⟩⟩
        rw [nameAll_succ, HA.out, ← he]; unfold nameByte; simp; omega
       ·omega
      case measure =>
       have hpp := hpA.out
       rcases hd.out with ⟨he, hlt, rfl⟩ | ⟨hge, he⟩
       ·simp; omega
       ·omega
    ·have f0 : decide ((65 : Int) ≤ c) = false := decide_eq_false (by omega)
     have f1 : decide (c ≤ (90 : Int)) = true := decide_eq_true (by omega)
     have f2 : decide ((97 : Int) ≤ c) = false := decide_eq_false (by omega)
     have f3 : decide (c ≤ (122 : Int)) = true := decide_eq_true (by omega)
     have f4 : (c == (95 : Int)) = false := beq_eq_false_iff_ne.mpr (by omega)
     have f5 : (c != (95 : Int)) = true := bne_iff_ne.mpr (by omega)
     have f6 : decide (c < (48 : Int)) = false := decide_eq_false (by omega)
     have f7 : decide ((57 : Int) < c) = true := decide_eq_true (by omega)
     by_cases h0 : pos = 0
     ·subst h0
      have g0 : (((0 : Nat) : Int) == 0) = true := rfl
      go_wp2
      go_ret
      refine ⟨?_, below_iter _ _ _⟩
      have hnb : nameByte 0 (bt a0 (0 : Nat)) = false := by
       rcases hd.out with ⟨he, _, _⟩ | ⟨_, he⟩
       ·rw [← he]; unfold nameByte; simp; omega
       ·exact nb_hi _ _ he
      rw [← hR.out]; unfold isNameV; rw [nameAll_false a0 0 a0.size hpA.out hnb]; simp
     ·have g0 : ((pos : Int) == 0) = false := beq_eq_false_iff_ne.mpr (by omega)
      go_wp2
      go_ret
      refine ⟨?_, below_iter _ _ _⟩
      have hnb : nameByte pos (bt a0 pos) = false := by
       rcases hd.out with ⟨he, _, _⟩ | ⟨_, he⟩
       ·rw [← he]; unfold nameByte; simp; omega
       ·exact nb_hi _ _ he
      rw [← hR.out]; unfold isNameV; rw [nameAll_false a0 pos a0.size hpA.out hnb]; simp
    ·have f0 : decide ((65 : Int) ≤ c) = true := decide_eq_true (by omega)
     have f1 : decide (c ≤ (90 : Int)) = true := decide_eq_true (by omega)
     have f2 : decide ((97 : Int) ≤ c) = false := decide_eq_false (by omega)
     have f3 : decide (c ≤ (122 : Int)) = true := decide_eq_true (by omega)
     have f4 : (c == (95 : Int)) = false := beq_eq_false_iff_ne.mpr (by omega)
     have f5 : (c != (95 : Int)) = true := bne_iff_ne.mpr (by omega)
     have f6 : decide (c < (48 : Int)) = false := decide_eq_false (by omega)
     have f7 : decide ((57 : Int) < c) = true := decide_eq_true (by omega)
     go_wp2
     go_roundw
     case rel =>
      rcases hd.out with ⟨he, hlt, rfl⟩ | ⟨hge, he⟩
      ·refine ⟨rfl, pos + 1, rfl, ⟨hpA.out⟩, ⟨?_⟩⟩
       rw [nameAll_succ, HA.out, ← he]; unfold nameByte; simp; omega
      ·omega
     case measure =>
      have hpp := hpA.out
      rcases hd.out with ⟨he, hlt, rfl⟩ | ⟨hge, he⟩
      ·simp; omega
      ·omega
    ·have f0 : decide ((65 : Int) ≤ c) = true := decide_eq_true (by omega)
     have f1 : decide (c ≤ (90 : Int)) = false := decide_eq_false (by omega)
     have f2 : decide ((97 : Int) ≤ c) = false := decide_eq_false (by omega)
     have f3 : decide (c ≤ (122 : Int)) = true := decide_eq_true (by omega)
     have f4 : (c == (95 : Int)) = false := beq_eq_false_iff_ne.mpr (by omega)
     have f5 : (c != (95 : Int)) = true := bne_iff_ne.mpr (by omega)
     have f6 : decide (c < (48 : Int)) = false := decide_eq_false (by omega)
     have f7 : decide ((57 : Int) < c) = true := decide_eq_true (by omega)
     by_cases h0 : pos = 0
     ·subst h0
      have g0 : (((0 : Nat) : Int) == 0) = true := rfl
      go_wp2
      go_ret
      refine ⟨?_, below_iter _ _ _⟩
      have hnb : nameByte 0 (bt a0 (0 : Nat)) = false := by
       rcases hd.out with ⟨he, _, _⟩ | ⟨_, he⟩
       ·rw [← he]; unfold nameByte; simp; omega
       ·exact nb_hi _ _ he
      rw [← hR.out]; unfold isNameV; rw [nameAll_false a0 0 a0.size hpA.out hnb]; simp
     ·have g0 : ((pos : Int) == 0) = false := beq_eq_false_iff_ne.mpr (by omega)
      go_wp2
      go_ret
      refine ⟨?_, below_iter _ _ _⟩
      have hnb : nameByte pos (bt a0 pos) = false := by
       rcases hd.out with ⟨he, _, _⟩ | ⟨_, he⟩
       ·rw [← he]; unfold nameByte; simp; omega
       ·exact nb_hi _ _ he
      rw [← hR.out]; unfold isNameV; rw [nameAll_false a0 pos a0.size hpA.out hnb]; simp
    ·have f0 : decide ((65 : Int) ≤ c) = true := decide_eq_true (by omega)
     have f1 : decide (c ≤ (90 : Int)) = false := decide_eq_false (by omega)
     have f2 : decide ((97 : Int) ≤ c) = false := decide_eq_false (by omega)
     have f3 : decide (c ≤ (122 : Int)) = true := decide_eq_true (by omega)
     have f4 : (c == (95 : Int)) = true := beq_iff_eq.mpr (by omega)
     have f5 : (c != (95 : Int)) = false := bne_eq_false_iff_eq.mpr (by omega)
     have f6 : decide (c < (48 : Int)) = false := decide_eq_false (by omega)
     have f7 : decide ((57 : Int) < c) = true := decide_eq_true (by omega)
     by_cases h0 : pos = 0
     ·subst h0
      have g0 : (((0 : Nat) : Int) == 0) = true := rfl
      go_wp2
      go_ret
      refine ⟨?_, below_iter _ _ _⟩
      have hnb : nameByte 0 (bt a0 (0 : Nat)) = false := by
       rcases hd.out with ⟨he, _, _⟩ | ⟨_, he⟩
       ·rw [← he]; unfold nameByte; simp; omega
       ·exact nb_hi _ _ he
      rw [← hR.out]; unfold isNameV; rw [nameAll_false a0 0 a0.size hpA.out hnb]; simp
     ·have g0 : ((pos : Int) == 0) = false := beq_eq_false_iff_ne.mpr (by omega)
      go_wp2
      go_roundw
      case rel =>
       rcases hd.out with ⟨he, hlt, rfl⟩ | ⟨hge, he⟩
       ·refine ⟨rfl, pos + 1, rfl, ⟨hpA.out⟩, ⟨?_⟩⟩
        rw [nameAll_succ, HA.out, ← he]; unfold nameByte; simp; omega
       ·omega
      case measure =>
       have hpp := hpA.out
       rcases hd.out with ⟨he, hlt, rfl⟩ | ⟨hge, he⟩
       ·simp; omega
       ·omega
    ·have f0 : decide ((65 : Int) ≤ c) = true := decide_eq_true (by omega)
     have f1 : decide (c ≤ (90 : Int)) = false := decide_eq_false (by omega)
     have f2 : decide ((97 : Int) ≤ c) = false := decide_eq_false (by omega)
     have f3 : decide (c ≤ (122 : Int)) = true := decide_eq_true (by omega)
     have f4 : (c == (95 : Int)) = false := beq_eq_false_iff_ne.mpr (by omega)
     have f5 : (c != (95 : Int)) = true := bne_iff_ne.mpr (by omega)
     have f6 : decide (c < (48 : Int)) = false := decide_eq_false (by omega)
     have f7 : decide ((57 : Int) < c) = true := decide_eq_true (by omega)
     by_cases h0 : pos = 0
     ·subst h0
      have g0 : (((0 : Nat) : Int) == 0) = true := rfl
      go_wp2
      go_ret
      refine ⟨?_, below_iter _ _ _⟩
      have hnb : nameByte 0 (bt a0 (0 : Nat)) = false := by
       rcases hd.out with ⟨he, _, _⟩ | ⟨_, he⟩
       ·rw [← he]; unfold nameByte; simp; omega
       ·exact nb_hi _ _ he
      rw [← hR.out]; unfold isNameV; rw [nameAll_false a0 0 a0.size hpA.out hnb]; simp
     ·have g0 : ((pos : Int) == 0) = false := beq_eq_false_iff_ne.mpr (by omega)
      go_wp2
      go_ret
      refine ⟨?_, below_iter _ _ _⟩
      have hnb : nameByte pos (bt a0 pos) = false := by
       rcases hd.out with ⟨he, _, _⟩ | ⟨_, he⟩
       ·rw [← he]; unfold nameByte; simp; omega
       ·exact nb_hi _ _ he
      rw [← hR.out]; unfold isNameV; rw [nameAll_false a0 pos a0.size hpA.out hnb]; simp
    ·have f0 : decide ((65 : Int) ≤ c) = true := decide_eq_true (by omega)
     have f1 : decide (c ≤ (90 : Int)) = false := decide_eq_false (by omega)
     have f2 : decide ((97 : Int) ≤ c) = true := decide_eq_true (by omega)
     have f3 : decide (c ≤ (122 : Int)) = true := decide_eq_true (by omega)
     have f4 : (c == (95 : Int)) = false := beq_eq_false_iff_ne.mpr (by omega)
     have f5 : (c != (95 : Int)) = true := bne_iff_ne.mpr (by omega)
     have f6 : decide (c < (48 : Int)) = false := decide_eq_false (by omega)
     have f7 : decide ((57 : Int) < c) = true := decide_eq_true (by omega)
     go_wp2
     go_roundw
     case rel =>
      rcases hd.out with ⟨he, hlt, rfl⟩ | ⟨hge, he⟩
      ·refine ⟨rfl, pos + 1, rfl, ⟨hpA.out⟩, ⟨?_⟩⟩
       rw [nameAll_succ, HA.out, ← he]; unfold nameByte; simp; omega
      ·omega
     case measure =>
      have hpp := hpA.out
      rcases hd.out with ⟨he, hlt, rfl⟩ | ⟨hge, he⟩
      ·simp; omega
      ·omega
    ·have f0 : decide ((65 : Int) ≤ c) = true := decide_eq_true (by omega)
     have f1 : decide (c ≤ (90 : Int)) = false := decide_eq_false (by omega)
     have f2 : decide ((97 : Int) ≤ c) = true := decide_eq_true (by omega)
     have f3 : decide (c ≤ (122 : Int)) = false := decide_eq_false (by omega)
     have f4 : (c == (95 : Int)) = false := beq_eq_false_iff_ne.mpr (by omega)
     have f5 : (c != (95 : Int)) = true := bne_iff_ne.mpr (by omega)
     have f6 : decide (c < (48 : Int)) = false := decide_eq_false (by omega)
     have f7 : decide ((57 : Int) < c) = true := decide_eq_true (by omega)
     by_cases h0 : pos = 0
     ·subst h0
      have g0 : (((0 : Nat) : Int) == 0) = true := rfl
      go_wp2
      go_ret
      refine ⟨?_, below_iter _ _ _⟩
      have hnb : nameByte 0 (bt a0 (0 : Nat)) = false := by
       rcases hd.out with ⟨he, _, _⟩ | ⟨_, he⟩
       ·rw [← he]; unfold nameByte; simp; omega
       ·exact nb_hi _ _ he
      rw [← hR.out]; unfold isNameV; rw [nameAll_false a0 0 a0.size hpA.out hnb]; simp
     ·have g0 : ((pos : Int) == 0) = false := beq_eq_false_iff_ne.mpr (by omega)
      go_wp2
      go_ret
      refine ⟨?_, below_iter _ _ _⟩
      have hnb : nameByte pos (bt a0 pos) = false := by
       rcases hd.out with ⟨he, _, _⟩ | ⟨_, he⟩
       ·rw [← he]; unfold nameByte; simp; omega
       ·exact nb_hi _ _ he
      rw [← hR.out]; unfold isNameV; rw [nameAll_false a0 pos a0.size hpA.out hnb]; simp
    ·have f0 : decide ((65 : Int) ≤ c) = true := decide_eq_true (by omega)
     have f1 : decide (c ≤ (90 : Int)) = false := decide_eq_false (by omega)
     have f2 : decide ((97 : Int) ≤ c) = true := decide_eq_true (by omega)
     have f3 : decide (c ≤ (122 : Int)) = false := decide_eq_false (by omega)
     have f4 : (c == (95 : Int)) = false := beq_eq_false_iff_ne.mpr (by omega)
     have f5 : (c != (95 : Int)) = true := bne_iff_ne.mpr (by omega)
     have f6 : decide (c < (48 : Int)) = false := decide_eq_false (by omega)
     have f7 : decide ((57 : Int) < c) = true := decide_eq_true (by omega)
     by_cases h0 : pos = 0
     ·subst h0
      have g0 : (((0 : Nat) : Int) == 0) = true := rfl
      go_wp2
      go_ret
      refine ⟨?_, below_iter _ _ _⟩
      have hnb : nameByte 0 (bt a0 (0 : Nat)) = false := by
       rcases hd.out with ⟨he, _, _⟩ | ⟨_, he⟩
       ·rw [← he]; unfold nameByte; simp; omega
       ·exact nb_hi _ _ he
      rw [← hR.out]; unfold isNameV; rw [nameAll_false a0 0 a0.size hpA.out hnb]; simp
     ·have g0 : ((pos : Int) == 0) = false := beq_eq_false_iff_ne.mpr (by omega)
      go_wp2
      go_ret
      refine ⟨?_, below_iter _ _ _⟩
      have hnb : nameByte pos (bt a0 pos) = false := by
       rcases hd.out with ⟨he, _, _⟩ | ⟨_, he⟩
       ·rw [← he]; unfold nameByte; simp; omega
       ·exact nb_hi _ _ he
      rw [← hR.out]; unfold isNameV; rw [nameAll_false a0 pos a0.size hpA.out hnb]; simp
   ·have hnx : ∀ ty, (Instr.next (.pointer (some ⟨w.heap.size, 0, none⟩)) true ty).run Tryz.prog (w.iter a0 pos) = _ := fun ty => run_next_end w a0 pos ty hp
    have hpe : pos = a0.size := by have := HL.out; omega
    subst hpe
    go_wp2
    go_ret
    refine ⟨?_, below_iter _ _ _⟩
    have htl : a0.toList.length = a0.size := by rw [show a0.toList = a0.data.toList from ByteArray.toList_eq a0]; exact data_length a0
    rw [← hR.out]; unfold isNameV; rw [HA.out, decide_eq_true (show a0.size ≤ 24 by omega), ← htl]
    show Ending.returned (Value.bool (!a0.toList.isEmpty)) = _
    cases a0.toList with
    | nil => rfl
    | cons a l => rfl
end Go.Proofs.YtfdlhbdcejlopaaGreatDoor.B
namespace Go.Proofs.YtfdlhbdcejlopaaGreatDoor.B
open Go.RowKit Go.Proofs.YtfdlhbdcejlopaaGreatDoorW.PrintWords Go.Proofs.YtfdlhbdcejlopaaGreatDoorW.PrintLast Go.Proofs.YtfdlhbdcejlopaaGreatDoorW.PrintMore
attribute [local go_sem] max2_int min2_int max_two min_two
set_option linter.unusedVariables false
set_option linter.unusedSimpArgs false
/-! ### market_CheckBids: function 44 -/
def market_CheckBids.l0 : Nat → List (S150) → List (S150) → Int → Int → Option (Int)
 | 0, _, _, _, _ => none
 | k + 1, x0, x10, x11, x12 => if x12 < x11 then (if 0 ≤ x12 then (if x12 < (x10.length : Int) then (if x12 ≤ (x0.length : Int) then ((containsN.f (x0.take (x12 : Int).toNat) ((rd_T150 x10 x12).f0) ((rd_T150 x10 x12).f1) ((rd_T150 x10 x12).f2)).bind fun t107 => ((site_IsName.f ((rd_T150 x10 x12).f0)).bind fun t108 => ((market_when.f (!t108) 8).bind fun t109 => ((market_within.f ((rd_T150 x10 x12).f1) 1 100000).bind fun t110 => ((market_checkPrice.f ((rd_T150 x10 x12).f2)).bind fun t111 => ((market_when.f t107 9).bind fun t112 => ((market_first.f k (([t109, t110, t111, t112] : List Int))).bind fun t116 => (if t116 = 0 then (market_CheckBids.l0 k x0 x10 x11 (wrap64 (x12 + 1))) else (some t116))))))))) else (none)) else (none)) else (none)) else (some 0)
def market_CheckBids.f (k : Nat) (l0 : List (S150)) : Option (Int) := if (l0.length : Int) > 64 then (some 5) else (market_CheckBids.l0 k l0 l0 (l0.length : Int) 0)
def market_CheckBids.T7 : Bool × List (List Nat × List Nat) := (true, [([], []), ([0], [0]), ([1], [1]), ([2], [2]), ([3, 2], [3]), ([], []), ([5], [5]), ([6, 4], [6]), ([], []), ([8], [8]), ([9, 7], [9]), ([], []), ([11, 10], [11]), ([4, 7, 10, 12], [4, 7, 10, 12]), ([13, 12], [13]), ([14, 14, 0, 1, 2, 3, 4, 5, 6, 7, 8, 9, 10, 11, 12, 13, 14], [14])])
def market_CheckBids.B7 : List Nat := [0, 1, 3, 7, 15, 0, 32, 127, 0, 256, 1023, 0, 4095, 8191, 16383, 32767]
theorem market_CheckBids.tab7 : rtab .any (opsOf Tryz.f44 7) = market_CheckBids.T7 := by kernel_rfl
theorem market_CheckBids.bits7 : waitsOk market_CheckBids.T7.2 market_CheckBids.B7 = true := by kernel_rfl
set_option maxHeartbeats 8000000 in
set_option maxRecDepth 100000 in
theorem market_CheckBids.calls (k : Nat) (A0 : Option Addr) (c0 : Nat) (l0 : List (S150)) (r : Int) (w : World) (hr0 : Kd.C k150 w A0 l0.length l0) (hc0 : l0.length ≤ c0) (h : market_CheckBids.f k l0 = some r) :
  Calls Tryz.prog 44 #[.slice A0 l0.length c0] w fun e w' => e = .returned (.int .i64 r) ∧ Below w.heap.size w w' := by
 have hu150 := Tryz.underlying150
 have HR0 := Aside0.mk hr0
 have HC0 := Aside0.mk hc0
 clear hr0 hc0
 have HB := Aside0.mk (Below.refl w.heap.size w)
 have H : (if (l0.length : Int) > 64 then (some 5) else (market_CheckBids.l0 k l0 l0 (l0.length : Int) 0)) = some r := h
 clear h
 by_cases c2 : (l0.length : Int) > 64
 ·rw [if_pos c2] at H
  have c2b0 : decide (64 < (l0.length : Int)) = true := decide_eq_true c2
  have c2b1 : decide (64 < l0.length) = true := decide_eq_true (by omega)
  clear c2
  obtain rfl := Option.some.inj H
  go_enter Tryz.func44, Tryz.ntmps44
  go_wp2
  go_ret
  exact ⟨by first | rfl | (simp [errW_none, errW_some] <;> rfl) | (simp [*, errW_none, errW_some] <;> rfl), by repeat (first | (with_reducible first | exact HB.out | apply below_alloc | apply pw_below_drewN | apply below_drew1) | exact HB.out)⟩
 ·rw [if_neg c2] at H
  have c2b0 : decide (64 < (l0.length : Int)) = false := decide_eq_false c2
  have c2b1 : decide (64 < l0.length) = false := decide_eq_false (by omega)
  clear c2
  have H' := Aside0.mk H
  clear H
  go_enter Tryz.func44, Tryz.ntmps44
  go_wp2
  go_loopg [12] k (fun kq v12 w' => ∃ (x12_1 : Int), v12 = .int .i64 x12_1 ∧ Aside0 (market_CheckBids.l0 kq l0 l0 (l0.length : Int) x12_1 = some r) ∧ Aside0 (kq ≤ k) ∧ Aside0 (Below w.heap.size w w'))
  case atStart => exact ⟨(0), (by first | rfl | (simp; done) | (simp [*]; done)), H', ⟨Nat.le_refl _⟩, ⟨by repeat (first | (with_reducible first | exact HB.out | apply below_alloc | apply pw_below_drewN | apply below_drew1) | exact HB.out)⟩⟩
  case round =>
   clear H'
   try clear c2
   try clear c2b0
   try clear c2b1
   try clear p2
   obtain ⟨x12_1, rfl, HA, HK1, HB⟩ := hrel
   cases gk with
   | zero => exact absurd HA.out (by simp [market_CheckBids.l0])
   | succ k1 =>
    have H := HA.out
    clear HA
    simp only [market_CheckBids.l0] at H
    by_cases c3 : x12_1 < (l0.length : Int)
    ·rw [if_pos c3] at H
     have c3b0 : decide (x12_1 < (l0.length : Int)) = true := decide_eq_true c3
     clear c3
     by_cases c4 : 0 ≤ x12_1
     ·rw [if_pos c4] at H
      have c4b0 : decide (0 ≤ x12_1) = true := decide_eq_true c4
      clear c4
      by_cases c5 : x12_1 < (l0.length : Int)
      ·rw [if_pos c5] at H
       have c5b0 : decide (x12_1 < (l0.length : Int)) = true := decide_eq_true c5
       clear c5
       have c6b0 := eq_true (of_decide_eq_true (by first | (with_reducible assumption) | assumption) : 0 ≤ x12_1)
       by_cases c7 : x12_1 ≤ (l0.length : Int)
       ·rw [if_pos c7] at H
        have c7b0 := eq_true c7
        have c7b1 : decide (x12_1 ≤ (l0.length : Int)) = true := decide_eq_true c7
        clear c7
        obtain ⟨y103, hy103⟩ : ∃ y_ : List (S150), y_ = (l0.take (x12_1 : Int).toNat) := ⟨_, rfl⟩
        replace H : ((containsN.f y103 ((rd_T150 l0 x12_1).f0) ((rd_T150 l0 x12_1).f1) ((rd_T150 l0 x12_1).f2)).bind fun t107 => ((site_IsName.f ((rd_T150 l0 x12_1).f0)).bind fun t108 => ((market_when.f (!t108) 8).bind fun t109 => ((market_within.f ((rd_T150 l0 x12_1).f1) 1 100000).bind fun t110 => ((market_checkPrice.f ((rd_T150 l0 x12_1).f2)).bind fun t111 => ((market_when.f t107 9).bind fun t112 => ((market_first.f k1 (([t109, t110, t111, t112] : List Int))).bind fun t116 => (if t116 = 0 then (market_CheckBids.l0 k1 l0 l0 (l0.length : Int) (wrap64 (x12_1 + 1))) else (some t116))))))))) = some r := by first | (rw [hy103]; with_reducible exact H) | (have H2_ := (Option.bind_some _ _).symm.trans H; rw [hy103]; with_reducible exact H2_) | (have H2_ := (Option.bind_some _ _).symm.trans H; with_reducible exact H2_) | with_reducible exact H | (rw [hy103]; exact H) | exact H
        have Ny103 := Aside0.mk hy103
        clear hy103
        replace H := Option.bind_eq_some_iff.mp H
        obtain ⟨t107, A80, H⟩ := H
        replace H : ((site_IsName.f ((rd_T150 l0 x12_1).f0)).bind fun t108 => ((market_when.f (!t108) 8).bind fun t109 => ((market_within.f ((rd_T150 l0 x12_1).f1) 1 100000).bind fun t110 => ((market_checkPrice.f ((rd_T150 l0 x12_1).f2)).bind fun t111 => ((market_when.f t107 9).bind fun t112 => ((market_first.f k1 (([t109, t110, t111, t112] : List Int))).bind fun t116 => (if t116 = 0 then (market_CheckBids.l0 k1 l0 l0 (l0.length : Int) (wrap64 (x12_1 + 1))) else (some t116)))))))) = some r := H
        have A8 := Aside0.mk A80
        clear A80
        replace H := Option.bind_eq_some_iff.mp H
        obtain ⟨t108, A90, H⟩ := H
        replace H : ((market_when.f (!t108) 8).bind fun t109 => ((market_within.f ((rd_T150 l0 x12_1).f1) 1 100000).bind fun t110 => ((market_checkPrice.f ((rd_T150 l0 x12_1).f2)).bind fun t111 => ((market_when.f t107 9).bind fun t112 => ((market_first.f k1 (([t109, t110, t111, t112] : List Int))).bind fun t116 => (if t116 = 0 then (market_CheckBids.l0 k1 l0 l0 (l0.length : Int) (wrap64 (x12_1 + 1))) else (some t116))))))) = some r := H
        have A9 := Aside0.mk A90
        clear A90
        replace H := Option.bind_eq_some_iff.mp H
        obtain ⟨t109, A100, H⟩ := H
        replace H : ((market_within.f ((rd_T150 l0 x12_1).f1) 1 100000).bind fun t110 => ((market_checkPrice.f ((rd_T150 l0 x12_1).f2)).bind fun t111 => ((market_when.f t107 9).bind fun t112 => ((market_first.f k1 (([t109, t110, t111, t112] : List Int))).bind fun t116 => (if t116 = 0 then (market_CheckBids.l0 k1 l0 l0 (l0.length : Int) (wrap64 (x12_1 + 1))) else (some t116)))))) = some r := H
        have A10 := Aside0.mk A100
        clear A100
        replace H := Option.bind_eq_some_iff.mp H
        obtain ⟨t110, A110, H⟩ := H
        replace H : ((market_checkPrice.f ((rd_T150 l0 x12_1).f2)).bind fun t111 => ((market_when.f t107 9).bind fun t112 => ((market_first.f k1 (([t109, t110, t111, t112] : List Int))).bind fun t116 => (if t116 = 0 then (market_CheckBids.l0 k1 l0 l0 (l0.length : Int) (wrap64 (x12_1 + 1))) else (some t116))))) = some r := H
        have A11 := Aside0.mk A110
        clear A110
        replace H := Option.bind_eq_some_iff.mp H
        obtain ⟨t111, A120, H⟩ := H
        replace H : ((market_when.f t107 9).bind fun t112 => ((market_first.f k1 (([t109, t110, t111, t112] : List Int))).bind fun t116 => (if t116 = 0 then (market_CheckBids.l0 k1 l0 l0 (l0.length : Int) (wrap64 (x12_1 + 1))) else (some t116)))) = some r := H
        have A12 := Aside0.mk A120
        clear A120
        replace H := Option.bind_eq_some_iff.mp H
        obtain ⟨t112, A130, H⟩ := H
        replace H : ((market_first.f k1 (([t109, t110, t111, t112] : List Int))).bind fun t116 => (if t116 = 0 then (market_CheckBids.l0 k1 l0 l0 (l0.length : Int) (wrap64 (x12_1 + 1))) else (some t116))) = some r := H
        have A13 := Aside0.mk A130
        clear A130
        obtain ⟨y113, hy113⟩ : ∃ y_ : List Int, y_ = (([t109, t110, t111, t112] : List Int)) := ⟨_, rfl⟩
        replace H : ((market_first.f k1 y113).bind fun t116 => (if t116 = 0 then (market_CheckBids.l0 k1 l0 l0 (l0.length : Int) (wrap64 (x12_1 + 1))) else (some t116))) = some r := by first | (rw [hy113]; with_reducible exact H) | (have H2_ := (Option.bind_some _ _).symm.trans H; rw [hy113]; with_reducible exact H2_) | (have H2_ := (Option.bind_some _ _).symm.trans H; with_reducible exact H2_) | with_reducible exact H | (rw [hy113]; exact H) | exact H
        have Ny113 := Aside0.mk hy113
        clear hy113
        replace H := Option.bind_eq_some_iff.mp H
        obtain ⟨t116, A140, H⟩ := H
        replace H : (if t116 = 0 then (market_CheckBids.l0 k1 l0 l0 (l0.length : Int) (wrap64 (x12_1 + 1))) else (some t116)) = some r := H
        have A14 := Aside0.mk A140
        clear A140
        by_cases c15 : t116 = 0
        ·rw [if_pos c15] at H
         have c15b0 : (t116 == 0) = true := beq_iff_eq.mpr c15
         have c15b1 : (t116 != 0) = false := bne_eq_false_iff_eq.mpr c15
         clear c15
         have H' := Aside0.mk H
         clear H
         have p101 : 0 ≤ (x12_1 : Int) := of_decide_eq_true (by first | (with_reducible assumption) | assumption)
         have q101 : x12_1 < (l0.length : Int) := of_decide_eq_true (by first | (with_reducible assumption) | assumption)
         obtain ⟨ad101, e101, hx101_0, hx101_1, hx101_2⟩ := at_T150 HR0.out x12_1 p101 q101
         cases e101
         replace hx101_0 := (HB.out.cell (World.block_lt_of_cell? w _ hx101_0)).trans hx101_0
         replace hx101_1 := (HB.out.cell (World.block_lt_of_cell? w _ hx101_1)).trans hx101_1
         replace hx101_2 := (HB.out.cell (World.block_lt_of_cell? w _ hx101_2)).trans hx101_2
         replace p101 := eq_true p101
         replace q101 := eq_true q101
         try go_wp2_with (first | ((with_reducible refine gate_dst (N := 4) rfl ?_); refine box_event ?hg (N := 4) ?hd (cs := #[.string (⟨#[]⟩ : ByteArray), .int .i64 0, .int .i64 0]) (t := 150) ?hr ?_; (case hd => rfl); (case hg => rfl); (case hr => first | (go_simp; done) | (go_simp; rfl)); intro gb102 hg w16 hbox hb; have n0_ := Aside0.mk (below_step (ws_ HB.out) hb); have n1_ := Aside0.mk (hbox); have n2_ := Aside0.mk ((by rw [hg]; exact (below_size (ws_ HB.out)) : w.heap.size ≤ gb102)); have n3_ := Aside0.mk ((by rw [hg]; exact (below_size (ws_ HB.out)) : w.heap.size ≤ gb102)); clear HB; have HB := n0_; have BK102 := n1_; have GW102 := n2_; have GE102 := n3_; clear n0_ n1_ n2_ n3_; clear hb hbox hg; have hcz17_0 : w16.cell? ⟨gb102, 0, none⟩ = some (.string (⟨#[]⟩ : ByteArray)) := (blk_cell BK102.out 0).trans rfl; have hcz17_1 : w16.cell? ⟨gb102, 1, none⟩ = some (.int .i64 0) := (blk_cell BK102.out 1).trans rfl; have hcz17_2 : w16.cell? ⟨gb102, 2, none⟩ = some (.int .i64 0) := (blk_cell BK102.out 2).trans rfl; have hfz17_0 := blk_frozen BK102.out 0; have hfz17_1 := blk_frozen BK102.out 1; have hfz17_2 := blk_frozen BK102.out 2) | ((with_reducible refine gate_store (t := 150) (p := 4) rfl ?_); refine store_event (t := 150) (p := 4) (v := ?vo_w18) (w1 := (((w16.setCell ⟨gb102, 0, none⟩ (.string ((rd_T150 l0 x12_1).f0))).setCell ⟨gb102, 1, none⟩ (.int .i64 ((rd_T150 l0 x12_1).f1))).setCell ⟨gb102, 2, none⟩ (.int .i64 ((rd_T150 l0 x12_1).f2)))) ?hg ?ho ?hn ?hr ?_; (case ho => rfl); (case hg => rfl); (case hn => rfl); (case hr => first | (go_simp; done) | (go_simp; rfl)); intro w18 hw; have n0_ : Aside0 (w18.heap[gb102]? = some (.cells #[.string ((rd_T150 l0 x12_1).f0), .int .i64 ((rd_T150 l0 x12_1).f1), .int .i64 ((rd_T150 l0 x12_1).f2)] 150 (0, 0))) := ⟨(by rw [hw]; exact (by (with_reducible repeat (first | refine blk_drewN ?_ _ | refine blk_drew ?_ | refine blk_alloc ?_ _)); refine blk_put (cs := #[.string ((rd_T150 l0 x12_1).f0), .int .i64 ((rd_T150 l0 x12_1).f1), .int .i64 0]) ?_ 2 _ rfl; (with_reducible repeat (first | refine blk_drewN ?_ _ | refine blk_drew ?_ | refine blk_alloc ?_ _)); refine blk_put (cs := #[.string ((rd_T150 l0 x12_1).f0), .int .i64 0, .int .i64 0]) ?_ 1 _ rfl; (with_reducible repeat (first | refine blk_drewN ?_ _ | refine blk_drew ?_ | refine blk_alloc ?_ _)); refine blk_put (cs := #[.string (⟨#[]⟩ : ByteArray), .int .i64 0, .int .i64 0]) ?_ 0 _ rfl; (with_reducible repeat (first | refine blk_drewN ?_ _ | refine blk_drew ?_ | refine blk_alloc ?_ _)); exact BK102.out))⟩; have n1_ : Aside0 (Below w.heap.size w w18) := ⟨(by rw [hw]; exact (wg_ HB.out GE102.out))⟩; clear hw; clear BK102; clear HB; have BK102 := n0_; have HB := n1_; clear n0_ n1_; have q19 : (x12_1 : Int) ≤ ((l0.length : Int) : Int) := of_decide_eq_true (by first | (with_reducible assumption) | assumption); obtain ⟨i019, hi019, _, hsz19, _⟩ := info_parts info150; have hroom19 : l0.length ≤ c0 := HC0.out; have hC19 : Kd.C k150 _ (some ad101) l0.length l0 := HR0.out; have hcut19 := cut_to (P := Tryz.prog) 65 150 .i64 Tryz.underlying65 hi019 (some ad101) l0.length c0 x12_1 (of_decide_eq_true (by first | (with_reducible assumption) | assumption)) q19 hroom19; have hr19 := Kd.C_take (m := (x12_1 : Int).toNat) hC19 (by omega); have hy19 : y103.length = (x12_1 : Int).toNat := (by rw [Ny103.out, List.length_take]; omega); rw [← Ny103.out] at hr19; rw [← hy19] at hcut19; have HR106 := Aside0.mk hr19; have HC106 := Aside0.mk (show y103.length ≤ c0 from by omega); clear hr19 hC19 hroom19 hi019 hsz19; have KY19 := Aside0.mk hy19; clear hy19; replace q19 := eq_true q19; have hcz20_0 : w18.cell? ⟨gb102, 0, none⟩ = some (.string ((rd_T150 l0 x12_1).f0)) := (blk_cell BK102.out 0).trans rfl; have hcz20_1 : w18.cell? ⟨gb102, 1, none⟩ = some (.int .i64 ((rd_T150 l0 x12_1).f1)) := (blk_cell BK102.out 1).trans rfl; have hcz20_2 : w18.cell? ⟨gb102, 2, none⟩ = some (.int .i64 ((rd_T150 l0 x12_1).f2)) := (blk_cell BK102.out 2).trans rfl; have hfz20_0 := blk_frozen BK102.out 0; have hfz20_1 := blk_frozen BK102.out 1; have hfz20_2 := blk_frozen BK102.out 2) | ((with_reducible refine gate_callee (f := 113) rfl ?_); refine gl_ (some 21) Tryz.func113 #[.slice (some ad101) y103.length c0, .func (.func 114) #[] #[.pointer (some ⟨gb102, 0, none⟩)]] ?_; (with_reducible refine (containsN.calls _ _ y103 ((rd_T150 l0 x12_1).f0) ((rd_T150 l0 x12_1).f1) ((rd_T150 l0 x12_1).f2) t107 _ ?side1 ?side2 A8.out gb102 ?side3).mono ?_); (case side3 => exact (blk_cell (show _ = some (Obj.cells #[.string ((rd_T150 l0 x12_1).f0), .int .i64 ((rd_T150 l0 x12_1).f1), .int .i64 ((rd_T150 l0 x12_1).f2)] 150 (0, 0)) from (bs_ BK102.out)) 0).trans rfl); (case side1 => exact cs_ (Kd.C_below HR106.out HB.out)); (case side2 => exact HC106.out); rintro e w21 ⟨rfl, hb⟩; refine ⟨_, rfl, ?_⟩; have n0_ := Aside0.mk (blk_below (g := gb102) (o := .cells #[.string ((rd_T150 l0 x12_1).f0), .int .i64 ((rd_T150 l0 x12_1).f1), .int .i64 ((rd_T150 l0 x12_1).f2)] 150 (0, 0)) (bs_ BK102.out) hb); have n1_ := Aside0.mk (below_step (wg_ HB.out GE102.out) hb); clear BK102; clear HB; have BK102 := n0_; have HB := n1_; clear n0_ n1_; (try clear hb); (try clear hb2); (try clear hk); (try clear hi)))
         have n0_ := Aside0.mk (blk_drew BK102.out)
         have n1_ := Aside0.mk (below_drew1 HB.out)
         clear BK102
         clear HB
         have BK102 := n0_
         have HB := n1_
         clear n0_ n1_
         refine start_ (n := 16) (S := fun w' => w'.cell? ⟨gb102, 0, none⟩ = some (.string ((rd_T150 l0 x12_1).f0)) ∧ w'.cell? ⟨gb102, 1, none⟩ = some (.int .i64 ((rd_T150 l0 x12_1).f1)) ∧ w'.cell? ⟨gb102, 2, none⟩ = some (.int .i64 ((rd_T150 l0 x12_1).f2))) (ds := []) #[false, false, false, false, false, false, false, false, false, false, false, false, false, false, false, false] (by kernel_rfl) rfl rfl ⟨(blk_cell BK102.out 0).trans rfl, (blk_cell BK102.out 1).trans rfl, (blk_cell BK102.out 2).trans rfl⟩ (fun hHeld => ?_); refine with_tabW market_CheckBids.tab7 market_CheckBids.bits7 (fun HT_ HW_ => ?_)
         generalize w21.drew = w22 at BK102 HB hHeld ⊢
         refine pv_ 0 22 #[true, false, false, false, false, false, false, false, false, false, false, false, false, false, false, false] (any_of HT_.out (by kernel_rfl)) ?_
         refine pv_ 5 27 #[true, false, false, false, false, true, false, false, false, false, false, false, false, false, false, false] (any_of HT_.out (by kernel_rfl)) ?_
         refine pv_ 8 30 #[true, false, false, false, false, true, false, false, true, false, false, false, false, false, false, false] (any_of HT_.out (by kernel_rfl)) ?_
         refine pv_ 11 33 #[true, false, false, false, false, true, false, false, true, false, false, true, false, false, false, false] (any_of HT_.out (by kernel_rfl)) ?_
         refine take_ (i := 1) (N := some 23) (v := ?_) (a' := ?_) #[true, true, false, false, false, true, false, false, true, false, false, true, false, false, false, false] rfl rfl (take_ofW HT_.out HW_.out (by kernel_rfl)) (fun _ _ _ h => h) (Or.inl ⟨by rfl, ?_⟩) hHeld ?_ ?_
         rotate_left
         ·rintro w' ⟨s0, s1, s2⟩
          go_simp
          with_reducible rfl
         rotate_left
         ·simp only [Act.put, List.setIfInBounds_toArray, List.set_cons_zero, List.set_cons_succ, i64_w, i32_w]
          rfl
         refine take_ (i := 6) (N := some 28) (v := ?_) (a' := ?_) #[true, true, false, false, false, true, true, false, true, false, false, true, false, false, false, false] rfl rfl (take_ofW HT_.out HW_.out (by kernel_rfl)) (fun _ _ _ h => h) (Or.inl ⟨by rfl, ?_⟩) hHeld ?_ ?_
         rotate_left
         ·rintro w' ⟨s0, s1, s2⟩
          go_simp
          with_reducible rfl
         rotate_left
         ·simp only [Act.put, List.setIfInBounds_toArray, List.set_cons_zero, List.set_cons_succ, i64_w, i32_w]
          rfl
         refine take_ (i := 9) (N := some 31) (v := ?_) (a' := ?_) #[true, true, false, false, false, true, true, false, true, true, false, true, false, false, false, false] rfl rfl (take_ofW HT_.out HW_.out (by kernel_rfl)) (fun _ _ _ h => h) (Or.inl ⟨by rfl, ?_⟩) hHeld ?_ ?_
         rotate_left
         ·rintro w' ⟨s0, s1, s2⟩
          go_simp
          with_reducible rfl
         rotate_left
         ·simp only [Act.put, List.setIfInBounds_toArray, List.set_cons_zero, List.set_cons_succ, i64_w, i32_w]
          rfl
         refine one_ (i := 2) (N := some 24) #[true, true, true, false, false, true, true, false, true, true, false, true, false, false, false, false] rfl rfl (one_of HT_.out (by kernel_rfl)) (by decide) (fun K hK => ?_)
         refine goes_ Tryz.func115 (by kernel_rfl) rfl #[.string ((rd_T150 l0 x12_1).f0)] (by rfl) rfl rfl (by (try simp only [List.map_toArray, List.map_cons, List.map_nil]); first | done | rfl | (simp only [List.length_drop, List.length_take]; rfl)) ?_
         with_reducible refine (site_IsName.calls ((rd_T150 l0 x12_1).f0) t108 _ A9.out).mono ?_
         rintro e w23 ⟨rfl, hb⟩
         refine ⟨_, rfl, ?_⟩
         have n0_ := Aside0.mk (blk_below (g := gb102) (o := .cells #[.string ((rd_T150 l0 x12_1).f0), .int .i64 ((rd_T150 l0 x12_1).f1), .int .i64 ((rd_T150 l0 x12_1).f2)] 150 (0, 0)) (bs_ BK102.out) hb)
         have n1_ := Aside0.mk (below_step (wg_ HB.out GE102.out) hb)
         clear BK102
         clear HB
         have BK102 := n0_
         have HB := n1_
         clear n0_ n1_
         (try clear hb)
         (try clear hb2)
         (try clear hk)
         (try clear hi)
         refine hK.out _ _ ⟨(blk_cell BK102.out 0).trans rfl, (blk_cell BK102.out 1).trans rfl, (blk_cell BK102.out 2).trans rfl⟩ (fun hHeld => ?_)
         clear hK K
         refine norm_ (a' := ?_) ?_ ?_
         rotate_left
         ·show Act.put _ (some 24) _ = _
          simp only [Act.put, List.setIfInBounds_toArray, List.set_cons_zero, List.set_cons_succ, i64_w, i32_w]
          rfl
         refine pv_ 3 25 #[true, true, true, true, false, true, true, false, true, true, false, true, false, false, false, false] (any_of HT_.out (by kernel_rfl)) ?_
         refine one_ (i := 4) (N := some 26) #[true, true, true, true, true, true, true, false, true, true, false, true, false, false, false, false] rfl rfl (one_of HT_.out (by kernel_rfl)) (by decide) (fun K hK => ?_)
         refine goes_ Tryz.func90 (by kernel_rfl) rfl #[.bool (!t108), .int .i64 8] (by rfl) rfl rfl (by (try simp only [List.map_toArray, List.map_cons, List.map_nil]); first | done | rfl | (simp only [List.length_drop, List.length_take]; rfl)) ?_
         with_reducible refine (market_when.calls (!t108) 8 t109 _ A10.out).mono ?_
         rintro e w' ⟨rfl, ⟨nd, rfl⟩⟩
         refine ⟨_, rfl, ?_⟩
         refine hK.out _ _ ⟨(blk_cell BK102.out 0).trans rfl, (blk_cell BK102.out 1).trans rfl, (blk_cell BK102.out 2).trans rfl⟩ (fun hHeld => ?_)
         clear hK K
         refine norm_ (a' := ?_) ?_ ?_
         rotate_left
         ·show Act.put _ (some 26) _ = _
          simp only [Act.put, List.setIfInBounds_toArray, List.set_cons_zero, List.set_cons_succ, i64_w, i32_w]
          rfl
         refine one_ (i := 7) (N := some 29) #[true, true, true, true, true, true, true, true, true, true, false, true, false, false, false, false] rfl rfl (one_of HT_.out (by kernel_rfl)) (by decide) (fun K hK => ?_)
         refine goes_ Tryz.func91 (by kernel_rfl) rfl #[.int .i64 ((rd_T150 l0 x12_1).f1), .int .i64 1, .int .i64 100000] (by rfl) rfl rfl (by (try simp only [List.map_toArray, List.map_cons, List.map_nil]); first | done | rfl | (simp only [List.length_drop, List.length_take]; rfl)) ?_
         with_reducible refine (market_within.calls ((rd_T150 l0 x12_1).f1) 1 100000 t110 _ A11.out).mono ?_
         rintro e w' ⟨rfl, ⟨nd, rfl⟩⟩
         refine ⟨_, rfl, ?_⟩
         refine hK.out _ _ ⟨(blk_cell BK102.out 0).trans rfl, (blk_cell BK102.out 1).trans rfl, (blk_cell BK102.out 2).trans rfl⟩ (fun hHeld => ?_)
         clear hK K
         refine norm_ (a' := ?_) ?_ ?_
         rotate_left
         ·show Act.put _ (some 29) _ = _
          simp only [Act.put, List.setIfInBounds_toArray, List.set_cons_zero, List.set_cons_succ, i64_w, i32_w]
          rfl
         refine one_ (i := 10) (N := some 32) #[true, true, true, true, true, true, true, true, true, true, true, true, false, false, false, false] rfl rfl (one_of HT_.out (by kernel_rfl)) (by decide) (fun K hK => ?_)
         refine goes_ Tryz.func93 (by kernel_rfl) rfl #[.int .i64 ((rd_T150 l0 x12_1).f2)] (by rfl) rfl rfl (by (try simp only [List.map_toArray, List.map_cons, List.map_nil]); first | done | rfl | (simp only [List.length_drop, List.length_take]; rfl)) ?_
         with_reducible refine (market_checkPrice.calls ((rd_T150 l0 x12_1).f2) t111 _ A12.out).mono ?_
         rintro e w' ⟨rfl, ⟨nd, rfl⟩⟩
         refine ⟨_, rfl, ?_⟩
         refine hK.out _ _ ⟨(blk_cell BK102.out 0).trans rfl, (blk_cell BK102.out 1).trans rfl, (blk_cell BK102.out 2).trans rfl⟩ (fun hHeld => ?_)
         clear hK K
         refine norm_ (a' := ?_) ?_ ?_
         rotate_left
         ·show Act.put _ (some 32) _ = _
          simp only [Act.put, List.setIfInBounds_toArray, List.set_cons_zero, List.set_cons_succ, i64_w, i32_w]
          rfl
         refine one_ (i := 12) (N := some 34) #[true, true, true, true, true, true, true, true, true, true, true, true, true, false, false, false] rfl rfl (one_of HT_.out (by kernel_rfl)) (by decide) (fun K hK => ?_)
         refine goes_ Tryz.func90 (by kernel_rfl) rfl #[.bool t107, .int .i64 9] (by rfl) rfl rfl (by (try simp only [List.map_toArray, List.map_cons, List.map_nil]); first | done | rfl | (simp only [List.length_drop, List.length_take]; rfl)) ?_
         with_reducible refine (market_when.calls t107 9 t112 _ A13.out).mono ?_
         rintro e w' ⟨rfl, ⟨nd, rfl⟩⟩
         refine ⟨_, rfl, ?_⟩
         refine hK.out _ _ ⟨(blk_cell BK102.out 0).trans rfl, (blk_cell BK102.out 1).trans rfl, (blk_cell BK102.out 2).trans rfl⟩ (fun hHeld => ?_)
         clear hK K
         refine norm_ (a' := ?_) ?_ ?_
         rotate_left
         ·show Act.put _ (some 34) _ = _
          simp only [Act.put, List.setIfInBounds_toArray, List.set_cons_zero, List.set_cons_succ, i64_w, i32_w]
          rfl
         refine one_ (i := 13) (N := some 35) #[true, true, true, true, true, true, true, true, true, true, true, true, true, true, false, false] rfl rfl (one_of HT_.out (by kernel_rfl)) (by decide) (fun K hK => ?_)
         refine Kd.R_lit_step (Kd.int .i64) _ 28 ?hg (N := 35) ?hd (xs := ([t109, t110, t111, t112] : List Int)) (inner := [.int .i64 t109, .int .i64 t110, .int .i64 t111, .int .i64 t112]) (ok := fun _ => True) (okp := fun _ => True) ?hr ?hp (fun _ hk => hk) trivial (Below.refl _ _) (Nat.le_refl _) (by simp) ?_; (case hd => rfl); (case hg => rfl); (case hr => first | (go_simp; done) | (go_simp; rfl)); (case hp => exact (Reps.one (show Kd.M (Kd.int .i64) _ _ _ t109 [.int .i64 t109] from rfl) (Reps.one (show Kd.M (Kd.int .i64) _ _ _ t110 [.int .i64 t110] from rfl) (Reps.one (show Kd.M (Kd.int .i64) _ _ _ t111 [.int .i64 t111] from rfl) (Reps.one (show Kd.M (Kd.int .i64) _ _ _ t112 [.int .i64 t112] from rfl) (Reps.none _ _))))))
         intro v114 w24 ho25 hb hg_ hnew_
         clear hg_ hnew_
         (first | rw [← Ny113.out] at ho25 | (simp only [Int.reduceToNat] at ho25; rw [← Ny113.out] at ho25))
         have n0_ := Aside0.mk (Kd.R_lower ho25 (below_size (wg_ HB.out GE102.out)))
         have n1_ := Aside0.mk (blk_below (g := gb102) (o := .cells #[.string ((rd_T150 l0 x12_1).f0), .int .i64 ((rd_T150 l0 x12_1).f1), .int .i64 ((rd_T150 l0 x12_1).f2)] 150 (0, 0)) (bs_ BK102.out) hb)
         have n2_ := Aside0.mk (below_step (wg_ HB.out GE102.out) hb)
         clear BK102
         clear HB
         have HO115 := n0_
         have BK102 := n1_
         have HB := n2_
         clear n0_ n1_ n2_
         clear hb ho25
         obtain ⟨Ao26, co26, eo26⟩ := Kd.R_slice HO115.out
         (first | subst eo26 | (injection eo26 with f1_ f2_ f3_; have f4_ := f1_.symm; have f5_ := f3_.symm; clear f1_ f2_ f3_; subst f4_; subst f5_))
         refine hK.out _ _ ⟨(blk_cell BK102.out 0).trans rfl, (blk_cell BK102.out 1).trans rfl, (blk_cell BK102.out 2).trans rfl⟩ (fun hHeld => ?_)
         clear hK K
         refine norm_ (a' := ?_) ?_ ?_
         rotate_left
         ·show Act.put _ (some 35) _ = _
          simp only [Act.put, List.setIfInBounds_toArray, List.set_cons_zero, List.set_cons_succ, i64_w, i32_w]
          rfl
         refine one_ (i := 14) (N := some 36) #[true, true, true, true, true, true, true, true, true, true, true, true, true, true, true, false] rfl rfl (one_of HT_.out (by kernel_rfl)) (by decide) (fun K hK => ?_)
         refine goes_ Tryz.func85 (by kernel_rfl) rfl #[.slice Ao26 y113.length co26] (by rfl) rfl rfl (by (try simp only [List.map_toArray, List.map_cons, List.map_nil]); first | done | rfl | (simp only [List.length_drop, List.length_take]; rfl)) ?_
         with_reducible refine (market_first.calls k1 _ _ y113 t116 _ ?side1 ?side2 A14.out).mono ?_
         (case side1 => repeat (first | exact (Kd.R_reads' HO115.out).2.2 | (with_reducible refine Kd.C_alloc ?_ _) | (with_reducible refine Kd.C_drewN ?_ _) | (with_reducible refine Kd.C_drew ?_)))
         (case side2 => exact (Kd.R_reads' HO115.out).2.1)
         rintro e w' ⟨rfl, ⟨nd, rfl⟩⟩
         refine ⟨_, rfl, ?_⟩
         refine hK.out _ _ ⟨(blk_cell BK102.out 0).trans rfl, (blk_cell BK102.out 1).trans rfl, (blk_cell BK102.out 2).trans rfl⟩ (fun hHeld => ?_)
         clear hK K
         refine norm_ (a' := ?_) ?_ ?_
         rotate_left
         ·show Act.put _ (some 36) _ = _
          simp only [Act.put, List.setIfInBounds_toArray, List.set_cons_zero, List.set_cons_succ, i64_w, i32_w]
          rfl
         refine pv_ 15 6 #[true, true, true, true, true, true, true, true, true, true, true, true, true, true, true, true] (any_of HT_.out (by kernel_rfl)) ?_
         refine done_ (done_of HT_.out (by kernel_rfl)) ?_
         try go_wp2
         go_roundg k1
         case measure => have := HK1.out; omega
         case rel => exact ⟨(wrap64 (x12_1 + 1)), (by first | rfl | (simp; done) | (simp [*]; done)), H', ⟨by have := HK1.out; omega⟩, ⟨by repeat (first | (with_reducible first | exact HB.out | apply below_alloc | apply pw_below_drewN | apply below_drew1 | refine below_set ?_ GE102.out) | exact HB.out)⟩⟩
        ·rw [if_neg c15] at H
         have c15b0 : (t116 == 0) = false := beq_eq_false_iff_ne.mpr c15
         have c15b1 : (t116 != 0) = true := bne_iff_ne.mpr c15
         obtain rfl := Option.some.inj H
         have p101 : 0 ≤ (x12_1 : Int) := of_decide_eq_true (by first | (with_reducible assumption) | assumption)
         have q101 : x12_1 < (l0.length : Int) := of_decide_eq_true (by first | (with_reducible assumption) | assumption)
         obtain ⟨ad101, e101, hx101_0, hx101_1, hx101_2⟩ := at_T150 HR0.out x12_1 p101 q101
         cases e101
         replace hx101_0 := (HB.out.cell (World.block_lt_of_cell? w _ hx101_0)).trans hx101_0
         replace hx101_1 := (HB.out.cell (World.block_lt_of_cell? w _ hx101_1)).trans hx101_1
         replace hx101_2 := (HB.out.cell (World.block_lt_of_cell? w _ hx101_2)).trans hx101_2
         replace p101 := eq_true p101
         replace q101 := eq_true q101
         try go_wp2_with (first | ((with_reducible refine gate_dst (N := 4) rfl ?_); refine box_event ?hg (N := 4) ?hd (cs := #[.string (⟨#[]⟩ : ByteArray), .int .i64 0, .int .i64 0]) (t := 150) ?hr ?_; (case hd => rfl); (case hg => rfl); (case hr => first | (go_simp; done) | (go_simp; rfl)); intro gb102 hg w27 hbox hb; have n0_ := Aside0.mk (below_step (ws_ HB.out) hb); have n1_ := Aside0.mk (hbox); have n2_ := Aside0.mk ((by rw [hg]; exact (below_size (ws_ HB.out)) : w.heap.size ≤ gb102)); have n3_ := Aside0.mk ((by rw [hg]; exact (below_size (ws_ HB.out)) : w.heap.size ≤ gb102)); clear HB; have HB := n0_; have BK102 := n1_; have GW102 := n2_; have GE102 := n3_; clear n0_ n1_ n2_ n3_; clear hb hbox hg; have hcz28_0 : w27.cell? ⟨gb102, 0, none⟩ = some (.string (⟨#[]⟩ : ByteArray)) := (blk_cell BK102.out 0).trans rfl; have hcz28_1 : w27.cell? ⟨gb102, 1, none⟩ = some (.int .i64 0) := (blk_cell BK102.out 1).trans rfl; have hcz28_2 : w27.cell? ⟨gb102, 2, none⟩ = some (.int .i64 0) := (blk_cell BK102.out 2).trans rfl; have hfz28_0 := blk_frozen BK102.out 0; have hfz28_1 := blk_frozen BK102.out 1; have hfz28_2 := blk_frozen BK102.out 2) | ((with_reducible refine gate_store (t := 150) (p := 4) rfl ?_); refine store_event (t := 150) (p := 4) (v := ?vo_w29) (w1 := (((w27.setCell ⟨gb102, 0, none⟩ (.string ((rd_T150 l0 x12_1).f0))).setCell ⟨gb102, 1, none⟩ (.int .i64 ((rd_T150 l0 x12_1).f1))).setCell ⟨gb102, 2, none⟩ (.int .i64 ((rd_T150 l0 x12_1).f2)))) ?hg ?ho ?hn ?hr ?_; (case ho => rfl); (case hg => rfl); (case hn => rfl); (case hr => first | (go_simp; done) | (go_simp; rfl)); intro w29 hw; have n0_ : Aside0 (w29.heap[gb102]? = some (.cells #[.string ((rd_T150 l0 x12_1).f0), .int .i64 ((rd_T150 l0 x12_1).f1), .int .i64 ((rd_T150 l0 x12_1).f2)] 150 (0, 0))) := ⟨(by rw [hw]; exact (by (with_reducible repeat (first | refine blk_drewN ?_ _ | refine blk_drew ?_ | refine blk_alloc ?_ _)); refine blk_put (cs := #[.string ((rd_T150 l0 x12_1).f0), .int .i64 ((rd_T150 l0 x12_1).f1), .int .i64 0]) ?_ 2 _ rfl; (with_reducible repeat (first | refine blk_drewN ?_ _ | refine blk_drew ?_ | refine blk_alloc ?_ _)); refine blk_put (cs := #[.string ((rd_T150 l0 x12_1).f0), .int .i64 0, .int .i64 0]) ?_ 1 _ rfl; (with_reducible repeat (first | refine blk_drewN ?_ _ | refine blk_drew ?_ | refine blk_alloc ?_ _)); refine blk_put (cs := #[.string (⟨#[]⟩ : ByteArray), .int .i64 0, .int .i64 0]) ?_ 0 _ rfl; (with_reducible repeat (first | refine blk_drewN ?_ _ | refine blk_drew ?_ | refine blk_alloc ?_ _)); exact BK102.out))⟩; have n1_ : Aside0 (Below w.heap.size w w29) := ⟨(by rw [hw]; exact (wg_ HB.out GE102.out))⟩; clear hw; clear BK102; clear HB; have BK102 := n0_; have HB := n1_; clear n0_ n1_; have q30 : (x12_1 : Int) ≤ ((l0.length : Int) : Int) := of_decide_eq_true (by first | (with_reducible assumption) | assumption); obtain ⟨i030, hi030, _, hsz30, _⟩ := info_parts info150; have hroom30 : l0.length ≤ c0 := HC0.out; have hC30 : Kd.C k150 _ (some ad101) l0.length l0 := HR0.out; have hcut30 := cut_to (P := Tryz.prog) 65 150 .i64 Tryz.underlying65 hi030 (some ad101) l0.length c0 x12_1 (of_decide_eq_true (by first | (with_reducible assumption) | assumption)) q30 hroom30; have hr30 := Kd.C_take (m := (x12_1 : Int).toNat) hC30 (by omega); have hy30 : y103.length = (x12_1 : Int).toNat := (by rw [Ny103.out, List.length_take]; omega); rw [← Ny103.out] at hr30; rw [← hy30] at hcut30; have HR106 := Aside0.mk hr30; have HC106 := Aside0.mk (show y103.length ≤ c0 from by omega); clear hr30 hC30 hroom30 hi030 hsz30; have KY30 := Aside0.mk hy30; clear hy30; replace q30 := eq_true q30; have hcz31_0 : w29.cell? ⟨gb102, 0, none⟩ = some (.string ((rd_T150 l0 x12_1).f0)) := (blk_cell BK102.out 0).trans rfl; have hcz31_1 : w29.cell? ⟨gb102, 1, none⟩ = some (.int .i64 ((rd_T150 l0 x12_1).f1)) := (blk_cell BK102.out 1).trans rfl; have hcz31_2 : w29.cell? ⟨gb102, 2, none⟩ = some (.int .i64 ((rd_T150 l0 x12_1).f2)) := (blk_cell BK102.out 2).trans rfl; have hfz31_0 := blk_frozen BK102.out 0; have hfz31_1 := blk_frozen BK102.out 1; have hfz31_2 := blk_frozen BK102.out 2) | ((with_reducible refine gate_callee (f := 113) rfl ?_); refine gl_ (some 21) Tryz.func113 #[.slice (some ad101) y103.length c0, .func (.func 114) #[] #[.pointer (some ⟨gb102, 0, none⟩)]] ?_; (with_reducible refine (containsN.calls _ _ y103 ((rd_T150 l0 x12_1).f0) ((rd_T150 l0 x12_1).f1) ((rd_T150 l0 x12_1).f2) t107 _ ?side1 ?side2 A8.out gb102 ?side3).mono ?_); (case side3 => exact (blk_cell (show _ = some (Obj.cells #[.string ((rd_T150 l0 x12_1).f0), .int .i64 ((rd_T150 l0 x12_1).f1), .int .i64 ((rd_T150 l0 x12_1).f2)] 150 (0, 0)) from (bs_ BK102.out)) 0).trans rfl); (case side1 => exact cs_ (Kd.C_below HR106.out HB.out)); (case side2 => exact HC106.out); rintro e w32 ⟨rfl, hb⟩; refine ⟨_, rfl, ?_⟩; have n0_ := Aside0.mk (blk_below (g := gb102) (o := .cells #[.string ((rd_T150 l0 x12_1).f0), .int .i64 ((rd_T150 l0 x12_1).f1), .int .i64 ((rd_T150 l0 x12_1).f2)] 150 (0, 0)) (bs_ BK102.out) hb); have n1_ := Aside0.mk (below_step (wg_ HB.out GE102.out) hb); clear BK102; clear HB; have BK102 := n0_; have HB := n1_; clear n0_ n1_; (try clear hb); (try clear hb2); (try clear hk); (try clear hi)))
         have n0_ := Aside0.mk (blk_drew BK102.out)
         have n1_ := Aside0.mk (below_drew1 HB.out)
         clear BK102
         clear HB
         have BK102 := n0_
         have HB := n1_
         clear n0_ n1_
         refine start_ (n := 16) (S := fun w' => w'.cell? ⟨gb102, 0, none⟩ = some (.string ((rd_T150 l0 x12_1).f0)) ∧ w'.cell? ⟨gb102, 1, none⟩ = some (.int .i64 ((rd_T150 l0 x12_1).f1)) ∧ w'.cell? ⟨gb102, 2, none⟩ = some (.int .i64 ((rd_T150 l0 x12_1).f2))) (ds := []) #[false, false, false, false, false, false, false, false, false, false, false, false, false, false, false, false] (by kernel_rfl) rfl rfl ⟨(blk_cell BK102.out 0).trans rfl, (blk_cell BK102.out 1).trans rfl, (blk_cell BK102.out 2).trans rfl⟩ (fun hHeld => ?_); refine with_tabW market_CheckBids.tab7 market_CheckBids.bits7 (fun HT_ HW_ => ?_)
         generalize w32.drew = w33 at BK102 HB hHeld ⊢
         refine pv_ 0 22 #[true, false, false, false, false, false, false, false, false, false, false, false, false, false, false, false] (any_of HT_.out (by kernel_rfl)) ?_
         refine pv_ 5 27 #[true, false, false, false, false, true, false, false, false, false, false, false, false, false, false, false] (any_of HT_.out (by kernel_rfl)) ?_
         refine pv_ 8 30 #[true, false, false, false, false, true, false, false, true, false, false, false, false, false, false, false] (any_of HT_.out (by kernel_rfl)) ?_
         refine pv_ 11 33 #[true, false, false, false, false, true, false, false, true, false, false, true, false, false, false, false] (any_of HT_.out (by kernel_rfl)) ?_
         refine take_ (i := 1) (N := some 23) (v := ?_) (a' := ?_) #[true, true, false, false, false, true, false, false, true, false, false, true, false, false, false, false] rfl rfl (take_ofW HT_.out HW_.out (by kernel_rfl)) (fun _ _ _ h => h) (Or.inl ⟨by rfl, ?_⟩) hHeld ?_ ?_
         rotate_left
         ·rintro w' ⟨s0, s1, s2⟩
          go_simp
          with_reducible rfl
         rotate_left
         ·simp only [Act.put, List.setIfInBounds_toArray, List.set_cons_zero, List.set_cons_succ, i64_w, i32_w]
          rfl
         refine take_ (i := 6) (N := some 28) (v := ?_) (a' := ?_) #[true, true, false, false, false, true, true, false, true, false, false, true, false, false, false, false] rfl rfl (take_ofW HT_.out HW_.out (by kernel_rfl)) (fun _ _ _ h => h) (Or.inl ⟨by rfl, ?_⟩) hHeld ?_ ?_
         rotate_left
         ·rintro w' ⟨s0, s1, s2⟩
          go_simp
          with_reducible rfl
         rotate_left
         ·simp only [Act.put, List.setIfInBounds_toArray, List.set_cons_zero, List.set_cons_succ, i64_w, i32_w]
          rfl
         refine take_ (i := 9) (N := some 31) (v := ?_) (a' := ?_) #[true, true, false, false, false, true, true, false, true, true, false, true, false, false, false, false] rfl rfl (take_ofW HT_.out HW_.out (by kernel_rfl)) (fun _ _ _ h => h) (Or.inl ⟨by rfl, ?_⟩) hHeld ?_ ?_
         rotate_left
         ·rintro w' ⟨s0, s1, s2⟩
          go_simp
          with_reducible rfl
         rotate_left
         ·simp only [Act.put, List.setIfInBounds_toArray, List.set_cons_zero, List.set_cons_succ, i64_w, i32_w]
          rfl
         refine one_ (i := 2) (N := some 24) #[true, true, true, false, false, true, true, false, true, true, false, true, false, false, false, false] rfl rfl (one_of HT_.out (by kernel_rfl)) (by decide) (fun K hK => ?_)
         refine goes_ Tryz.func115 (by kernel_rfl) rfl #[.string ((rd_T150 l0 x12_1).f0)] (by rfl) rfl rfl (by (try simp only [List.map_toArray, List.map_cons, List.map_nil]); first | done | rfl | (simp only [List.length_drop, List.length_take]; rfl)) ?_
         with_reducible refine (site_IsName.calls ((rd_T150 l0 x12_1).f0) t108 _ A9.out).mono ?_
         rintro e w34 ⟨rfl, hb⟩
         refine ⟨_, rfl, ?_⟩
         have n0_ := Aside0.mk (blk_below (g := gb102) (o := .cells #[.string ((rd_T150 l0 x12_1).f0), .int .i64 ((rd_T150 l0 x12_1).f1), .int .i64 ((rd_T150 l0 x12_1).f2)] 150 (0, 0)) (bs_ BK102.out) hb)
         have n1_ := Aside0.mk (below_step (wg_ HB.out GE102.out) hb)
         clear BK102
         clear HB
         have BK102 := n0_
         have HB := n1_
         clear n0_ n1_
         (try clear hb)
         (try clear hb2)
         (try clear hk)
         (try clear hi)
         refine hK.out _ _ ⟨(blk_cell BK102.out 0).trans rfl, (blk_cell BK102.out 1).trans rfl, (blk_cell BK102.out 2).trans rfl⟩ (fun hHeld => ?_)
         clear hK K
         refine norm_ (a' := ?_) ?_ ?_
         rotate_left
         ·show Act.put _ (some 24) _ = _
          simp only [Act.put, List.setIfInBounds_toArray, List.set_cons_zero, List.set_cons_succ, i64_w, i32_w]
          rfl
         refine pv_ 3 25 #[true, true, true, true, false, true, true, false, true, true, false, true, false, false, false, false] (any_of HT_.out (by kernel_rfl)) ?_
         refine one_ (i := 4) (N := some 26) #[true, true, true, true, true, true, true, false, true, true, false, true, false, false, false, false] rfl rfl (one_of HT_.out (by kernel_rfl)) (by decide) (fun K hK => ?_)
         refine goes_ Tryz.func90 (by kernel_rfl) rfl #[.bool (!t108), .int .i64 8] (by rfl) rfl rfl (by (try simp only [List.map_toArray, List.map_cons, List.map_nil]); first | done | rfl | (simp only [List.length_drop, List.length_take]; rfl)) ?_
         with_reducible refine (market_when.calls (!t108) 8 t109 _ A10.out).mono ?_
         rintro e w' ⟨rfl, ⟨nd, rfl⟩⟩
         refine ⟨_, rfl, ?_⟩
         refine hK.out _ _ ⟨(blk_cell BK102.out 0).trans rfl, (blk_cell BK102.out 1).trans rfl, (blk_cell BK102.out 2).trans rfl⟩ (fun hHeld => ?_)
         clear hK K
         refine norm_ (a' := ?_) ?_ ?_
         rotate_left
         ·show Act.put _ (some 26) _ = _
          simp only [Act.put, List.setIfInBounds_toArray, List.set_cons_zero, List.set_cons_succ, i64_w, i32_w]
          rfl
         refine one_ (i := 7) (N := some 29) #[true, true, true, true, true, true, true, true, true, true, false, true, false, false, false, false] rfl rfl (one_of HT_.out (by kernel_rfl)) (by decide) (fun K hK => ?_)
         refine goes_ Tryz.func91 (by kernel_rfl) rfl #[.int .i64 ((rd_T150 l0 x12_1).f1), .int .i64 1, .int .i64 100000] (by rfl) rfl rfl (by (try simp only [List.map_toArray, List.map_cons, List.map_nil]); first | done | rfl | (simp only [List.length_drop, List.length_take]; rfl)) ?_
         with_reducible refine (market_within.calls ((rd_T150 l0 x12_1).f1) 1 100000 t110 _ A11.out).mono ?_
         rintro e w' ⟨rfl, ⟨nd, rfl⟩⟩
         refine ⟨_, rfl, ?_⟩
         refine hK.out _ _ ⟨(blk_cell BK102.out 0).trans rfl, (blk_cell BK102.out 1).trans rfl, (blk_cell BK102.out 2).trans rfl⟩ (fun hHeld => ?_)
         clear hK K
         refine norm_ (a' := ?_) ?_ ?_
         rotate_left
         ·show Act.put _ (some 29) _ = _
          simp only [Act.put, List.setIfInBounds_toArray, List.set_cons_zero, List.set_cons_succ, i64_w, i32_w]
          rfl
         refine one_ (i := 10) (N := some 32) #[true, true, true, true, true, true, true, true, true, true, true, true, false, false, false, false] rfl rfl (one_of HT_.out (by kernel_rfl)) (by decide) (fun K hK => ?_)
         refine goes_ Tryz.func93 (by kernel_rfl) rfl #[.int .i64 ((rd_T150 l0 x12_1).f2)] (by rfl) rfl rfl (by (try simp only [List.map_toArray, List.map_cons, List.map_nil]); first | done | rfl | (simp only [List.length_drop, List.length_take]; rfl)) ?_
         with_reducible refine (market_checkPrice.calls ((rd_T150 l0 x12_1).f2) t111 _ A12.out).mono ?_
         rintro e w' ⟨rfl, ⟨nd, rfl⟩⟩
         refine ⟨_, rfl, ?_⟩
         refine hK.out _ _ ⟨(blk_cell BK102.out 0).trans rfl, (blk_cell BK102.out 1).trans rfl, (blk_cell BK102.out 2).trans rfl⟩ (fun hHeld => ?_)
         clear hK K
         refine norm_ (a' := ?_) ?_ ?_
         rotate_left
         ·show Act.put _ (some 32) _ = _
          simp only [Act.put, List.setIfInBounds_toArray, List.set_cons_zero, List.set_cons_succ, i64_w, i32_w]
          rfl
         refine one_ (i := 12) (N := some 34) #[true, true, true, true, true, true, true, true, true, true, true, true, true, false, false, false] rfl rfl (one_of HT_.out (by kernel_rfl)) (by decide) (fun K hK => ?_)
         refine goes_ Tryz.func90 (by kernel_rfl) rfl #[.bool t107, .int .i64 9] (by rfl) rfl rfl (by (try simp only [List.map_toArray, List.map_cons, List.map_nil]); first | done | rfl | (simp only [List.length_drop, List.length_take]; rfl)) ?_
         with_reducible refine (market_when.calls t107 9 t112 _ A13.out).mono ?_
         rintro e w' ⟨rfl, ⟨nd, rfl⟩⟩
         refine ⟨_, rfl, ?_⟩
         refine hK.out _ _ ⟨(blk_cell BK102.out 0).trans rfl, (blk_cell BK102.out 1).trans rfl, (blk_cell BK102.out 2).trans rfl⟩ (fun hHeld => ?_)
         clear hK K
         refine norm_ (a' := ?_) ?_ ?_
         rotate_left
         ·show Act.put _ (some 34) _ = _
          simp only [Act.put, List.setIfInBounds_toArray, List.set_cons_zero, List.set_cons_succ, i64_w, i32_w]
          rfl
         refine one_ (i := 13) (N := some 35) #[true, true, true, true, true, true, true, true, true, true, true, true, true, true, false, false] rfl rfl (one_of HT_.out (by kernel_rfl)) (by decide) (fun K hK => ?_)
         refine Kd.R_lit_step (Kd.int .i64) _ 28 ?hg (N := 35) ?hd (xs := ([t109, t110, t111, t112] : List Int)) (inner := [.int .i64 t109, .int .i64 t110, .int .i64 t111, .int .i64 t112]) (ok := fun _ => True) (okp := fun _ => True) ?hr ?hp (fun _ hk => hk) trivial (Below.refl _ _) (Nat.le_refl _) (by simp) ?_; (case hd => rfl); (case hg => rfl); (case hr => first | (go_simp; done) | (go_simp; rfl)); (case hp => exact (Reps.one (show Kd.M (Kd.int .i64) _ _ _ t109 [.int .i64 t109] from rfl) (Reps.one (show Kd.M (Kd.int .i64) _ _ _ t110 [.int .i64 t110] from rfl) (Reps.one (show Kd.M (Kd.int .i64) _ _ _ t111 [.int .i64 t111] from rfl) (Reps.one (show Kd.M (Kd.int .i64) _ _ _ t112 [.int .i64 t112] from rfl) (Reps.none _ _))))))
         intro v114 w35 ho36 hb hg_ hnew_
         clear hg_ hnew_
         (first | rw [← Ny113.out] at ho36 | (simp only [Int.reduceToNat] at ho36; rw [← Ny113.out] at ho36))
         have n0_ := Aside0.mk (Kd.R_lower ho36 (below_size (wg_ HB.out GE102.out)))
         have n1_ := Aside0.mk (blk_below (g := gb102) (o := .cells #[.string ((rd_T150 l0 x12_1).f0), .int .i64 ((rd_T150 l0 x12_1).f1), .int .i64 ((rd_T150 l0 x12_1).f2)] 150 (0, 0)) (bs_ BK102.out) hb)
         have n2_ := Aside0.mk (below_step (wg_ HB.out GE102.out) hb)
         clear BK102
         clear HB
         have HO115 := n0_
         have BK102 := n1_
         have HB := n2_
         clear n0_ n1_ n2_
         clear hb ho36
         obtain ⟨Ao37, co37, eo37⟩ := Kd.R_slice HO115.out
         (first | subst eo37 | (injection eo37 with f1_ f2_ f3_; have f4_ := f1_.symm; have f5_ := f3_.symm; clear f1_ f2_ f3_; subst f4_; subst f5_))
         refine hK.out _ _ ⟨(blk_cell BK102.out 0).trans rfl, (blk_cell BK102.out 1).trans rfl, (blk_cell BK102.out 2).trans rfl⟩ (fun hHeld => ?_)
         clear hK K
         refine norm_ (a' := ?_) ?_ ?_
         rotate_left
         ·show Act.put _ (some 35) _ = _
          simp only [Act.put, List.setIfInBounds_toArray, List.set_cons_zero, List.set_cons_succ, i64_w, i32_w]
          rfl
         refine one_ (i := 14) (N := some 36) #[true, true, true, true, true, true, true, true, true, true, true, true, true, true, true, false] rfl rfl (one_of HT_.out (by kernel_rfl)) (by decide) (fun K hK => ?_)
         refine goes_ Tryz.func85 (by kernel_rfl) rfl #[.slice Ao37 y113.length co37] (by rfl) rfl rfl (by (try simp only [List.map_toArray, List.map_cons, List.map_nil]); first | done | rfl | (simp only [List.length_drop, List.length_take]; rfl)) ?_
         with_reducible refine (market_first.calls k1 _ _ y113 t116 _ ?side1 ?side2 A14.out).mono ?_
         (case side1 => repeat (first | exact (Kd.R_reads' HO115.out).2.2 | (with_reducible refine Kd.C_alloc ?_ _) | (with_reducible refine Kd.C_drewN ?_ _) | (with_reducible refine Kd.C_drew ?_)))
         (case side2 => exact (Kd.R_reads' HO115.out).2.1)
         rintro e w' ⟨rfl, ⟨nd, rfl⟩⟩
         refine ⟨_, rfl, ?_⟩
         refine hK.out _ _ ⟨(blk_cell BK102.out 0).trans rfl, (blk_cell BK102.out 1).trans rfl, (blk_cell BK102.out 2).trans rfl⟩ (fun hHeld => ?_)
         clear hK K
         refine norm_ (a' := ?_) ?_ ?_
         rotate_left
         ·show Act.put _ (some 36) _ = _
          simp only [Act.put, List.setIfInBounds_toArray, List.set_cons_zero, List.set_cons_succ, i64_w, i32_w]
          rfl
         refine pv_ 15 6 #[true, true, true, true, true, true, true, true, true, true, true, true, true, true, true, true] (any_of HT_.out (by kernel_rfl)) ?_
         refine done_ (done_of HT_.out (by kernel_rfl)) ?_
         try go_wp2
         go_ret
         exact ⟨by first | rfl | (simp [errW_none, errW_some] <;> rfl) | (simp [*, errW_none, errW_some] <;> rfl), by repeat (first | (with_reducible first | exact HB.out | apply below_alloc | apply pw_below_drewN | apply below_drew1 | refine below_set ?_ GE102.out) | exact HB.out)⟩
       ·rw [if_neg c7] at H
        exact absurd H (by simp)
      ·rw [if_neg c5] at H
       exact absurd H (by simp)
     ·rw [if_neg c4] at H
      exact absurd H (by simp)
    ·rw [if_neg c3] at H
     have c3b0 : decide (x12_1 < (l0.length : Int)) = false := decide_eq_false c3
     clear c3
     obtain rfl := Option.some.inj H
     go_wp2
     go_ret
     exact ⟨by first | rfl | (simp [errW_none, errW_some] <;> rfl) | (simp [*, errW_none, errW_some] <;> rfl), by repeat (first | (with_reducible first | exact HB.out | apply below_alloc | apply pw_below_drewN | apply below_drew1) | exact HB.out)⟩
/-! ### market_Clear: function 40 -/
mutual
def market_Clear.l0 : Nat → List (S150) → Int → List Int → Int → List Int → Int → Int → Option (List Int × Int × Int)
 | 0, _, _, _, _, _, _, _ => none
 | k + 1, x0, x1, x10, x11, x44, x45, x46 => if x46 < x45 then (if 0 ≤ x46 then (if x46 < (x44.length : Int) then (market_Clear.l1 k x0 x1 x10 x11 (rd x44 x46) ([] : List Int) x44 x45 x46 x0 (x0.length : Int) 0) else (none)) else (none)) else (some (x10, x11, 0))
def market_Clear.l1 : Nat → List (S150) → Int → List Int → Int → Int → List Int → List Int → Int → Int → List (S150) → Int → Int → Option (List Int × Int × Int)
 | 0, _, _, _, _, _, _, _, _, _, _, _, _ => none
 | k + 1, x0, x1, x10, x11, x13, x14, x44, x45, x46, x50, x51, x52 => if x52 < x51 then (if 0 ≤ x52 then (if x52 < (x50.length : Int) then (if ((rd_T150 x50 x52).f2) = x13 then (if x14.length < 17592186044416 then (market_Clear.l1 k x0 x1 x10 x11 x13 (x14 ++ [(rd_T150 x50 x52).f1]) x44 x45 x46 x50 x51 (wrap64 (x52 + 1))) else (none)) else (market_Clear.l1 k x0 x1 x10 x11 x13 x14 x44 x45 x46 x50 x51 (wrap64 (x52 + 1)))) else (none)) else (none)) else ((market_shared.f k x14 x1).bind fun t127 => ((market_sum.f k t127).bind fun t130 => (if t130 > 0 then (market_Clear.j2 k x0 x1 x10 x13 x13 t127 x44 x45 x46) else (market_Clear.j2 k x0 x1 x10 x11 x13 t127 x44 x45 x46))))
def market_Clear.j2 : Nat → List (S150) → Int → List Int → Int → Int → List Int → List Int → Int → Int → Option (List Int × Int × Int)
 | 0, _, _, _, _, _, _, _, _, _ => none
 | k + 1, x0, x1, x10, x11, x13, x17, x44, x45, x46 => (market_sum.f k x17).bind fun t131 => (market_Clear.l2 k x0 (wrap64 (x1 - t131)) x10 x11 x13 x17 x44 x45 x46 x0 (x0.length : Int) 0)
def market_Clear.l2 : Nat → List (S150) → Int → List Int → Int → Int → List Int → List Int → Int → Int → List (S150) → Int → Int → Option (List Int × Int × Int)
 | 0, _, _, _, _, _, _, _, _, _, _, _, _ => none
 | k + 1, x0, x1, x10, x11, x13, x17, x44, x45, x46, x77, x78, x79 => if x79 < x78 then (if 0 ≤ x79 then (if x79 < (x77.length : Int) then (if ((rd_T150 x77 x79).f2) = x13 then (if 0 < (x17.length : Int) then (if 1 ≤ (x17.length : Int) then (if x79 < (x10.length : Int) then (market_Clear.l2 k x0 x1 (x10.set (x79 : Int).toNat (rd x17 0)) x11 x13 (x17.drop (1 : Int).toNat) x44 x45 x46 x77 x78 (wrap64 (x79 + 1))) else (none)) else (none)) else (none)) else (market_Clear.l2 k x0 x1 x10 x11 x13 x17 x44 x45 x46 x77 x78 (wrap64 (x79 + 1)))) else (none)) else (none)) else (market_Clear.l0 k x0 x1 x10 x11 x44 x45 (wrap64 (x46 + 1)))
end
def market_Clear.f (k : Nat) (l0 : List (S150)) (a1 : Int) : Option (List Int × Int × Int) := (market_Bid_int__market_Clear_1.f k l0 ()).bind fun t101 => ((market_sum.f k t101).bind fun t104 => ((market_CheckBids.f k l0).bind fun t105 => ((market_checkTotal.f a1).bind fun t106 => ((market_when.f (decide (a1 > t104)) 24).bind fun t107 => ((market_first.f k (([t105, t106, t107] : List Int))).bind fun t111 => (if t111 = 0 then ((market_Bid_int__market_Clear_2.f k l0 ()).bind fun t112 => (if 0 ≤ (l0.length : Int) then (if ((l0.length : Int) : Int).toNat ≤ 35184372088832 then ((sortCompact.f t112).bind fun t118 => (market_Clear.l0 k l0 a1 (List.replicate ((l0.length : Int) : Int).toNat 0) 0 t118 (t118.length : Int) 0)) else (none)) else (none))) else (some (([] : List Int), 0, t111))))))))
def market_Clear.T27 : Bool × List (List Nat × List Nat) := (true, [([], []), ([], []), ([], []), ([2], [2]), ([3], [3]), ([], []), ([5], [5]), ([0, 1, 0, 1, 2, 3, 4], [0, 1]), ([7, 4, 0, 1, 2, 3, 4], [4, 7]), ([6, 8, 0, 1, 2, 3, 4, 5, 6, 7, 8], [2, 5, 6])])
def market_Clear.B27 : List Nat := [0, 0, 0, 4, 12, 0, 32, 31, 159, 511]
theorem market_Clear.tab27 : rtab .any (opsOf Tryz.f40 27) = market_Clear.T27 := by kernel_rfl
theorem market_Clear.bits27 : waitsOk market_Clear.T27.2 market_Clear.B27 = true := by kernel_rfl
set_option maxHeartbeats 8000000 in
set_option maxRecDepth 100000 in
theorem market_Clear.calls (k : Nat) (A0 : Option Addr) (c0 : Nat) (l0 : List (S150)) (a1 : Int) (r1 : List Int) (r2 : Int) (r3 : Int) (w : World) (hr0 : Kd.C k150 w A0 l0.length l0) (hc0 : l0.length ≤ c0) (h : market_Clear.f k l0 a1 = some (r1, r2, r3)) :
  Calls Tryz.prog 40 #[.slice A0 l0.length c0, .int .i64 a1] w fun e w' => ∃ v0_ : Value, e = .returned (.tuple #[v0_, .int .i64 r2, .int .i64 r3]) ∧ Kd.R (Kd.int .i64) 3 w' w.heap.size (fun _ => True) v0_ r1 ∧ Below w.heap.size w w' := by
 have hu150 := Tryz.underlying150
 have HR0 := Aside0.mk hr0
 have HC0 := Aside0.mk hc0
 clear hr0 hc0
 have HB := Aside0.mk (Below.refl w.heap.size w)
 have H : ((market_Bid_int__market_Clear_1.f k l0 ()).bind fun t101 => ((market_sum.f k t101).bind fun t104 => ((market_CheckBids.f k l0).bind fun t105 => ((market_checkTotal.f a1).bind fun t106 => ((market_when.f (decide (a1 > t104)) 24).bind fun t107 => ((market_first.f k (([t105, t106, t107] : List Int))).bind fun t111 => (if t111 = 0 then ((market_Bid_int__market_Clear_2.f k l0 ()).bind fun t112 => (if 0 ≤ (l0.length : Int) then (if ((l0.length : Int) : Int).toNat ≤ 35184372088832 then ((sortCompact.f t112).bind fun t118 => (market_Clear.l0 k l0 a1 (List.replicate ((l0.length : Int) : Int).toNat 0) 0 t118 (t118.length : Int) 0)) else (none)) else (none))) else (some (([] : List Int), 0, t111))))))))) = some (r1, r2, r3) := h
 clear h
 replace H := Option.bind_eq_some_iff.mp H
 obtain ⟨t101, A30, H⟩ := H
 replace H : ((market_sum.f k t101).bind fun t104 => ((market_CheckBids.f k l0).bind fun t105 => ((market_checkTotal.f a1).bind fun t106 => ((market_when.f (decide (a1 > t104)) 24).bind fun t107 => ((market_first.f k (([t105, t106, t107] : List Int))).bind fun t111 => (if t111 = 0 then ((market_Bid_int__market_Clear_2.f k l0 ()).bind fun t112 => (if 0 ≤ (l0.length : Int) then (if ((l0.length : Int) : Int).toNat ≤ 35184372088832 then ((sortCompact.f t112).bind fun t118 => (market_Clear.l0 k l0 a1 (List.replicate ((l0.length : Int) : Int).toNat 0) 0 t118 (t118.length : Int) 0)) else (none)) else (none))) else (some (([] : List Int), 0, t111)))))))) = some (r1, r2, r3) := H
 have A3 := Aside0.mk A30
 clear A30
 replace H := Option.bind_eq_some_iff.mp H
 obtain ⟨t104, A40, H⟩ := H
 replace H : ((market_CheckBids.f k l0).bind fun t105 => ((market_checkTotal.f a1).bind fun t106 => ((market_when.f (decide (a1 > t104)) 24).bind fun t107 => ((market_first.f k (([t105, t106, t107] : List Int))).bind fun t111 => (if t111 = 0 then ((market_Bid_int__market_Clear_2.f k l0 ()).bind fun t112 => (if 0 ≤ (l0.length : Int) then (if ((l0.length : Int) : Int).toNat ≤ 35184372088832 then ((sortCompact.f t112).bind fun t118 => (market_Clear.l0 k l0 a1 (List.replicate ((l0.length : Int) : Int).toNat 0) 0 t118 (t118.length : Int) 0)) else (none)) else (none))) else (some (([] : List Int), 0, t111))))))) = some (r1, r2, r3) := H
 have A4 := Aside0.mk A40
 clear A40
 replace H := Option.bind_eq_some_iff.mp H
 obtain ⟨t105, A50, H⟩ := H
 replace H : ((market_checkTotal.f a1).bind fun t106 => ((market_when.f (decide (a1 > t104)) 24).bind fun t107 => ((market_first.f k (([t105, t106, t107] : List Int))).bind fun t111 => (if t111 = 0 then ((market_Bid_int__market_Clear_2.f k l0 ()).bind fun t112 => (if 0 ≤ (l0.length : Int) then (if ((l0.length : Int) : Int).toNat ≤ 35184372088832 then ((sortCompact.f t112).bind fun t118 => (market_Clear.l0 k l0 a1 (List.replicate ((l0.length : Int) : Int).toNat 0) 0 t118 (t118.length : Int) 0)) else (none)) else (none))) else (some (([] : List Int), 0, t111)))))) = some (r1, r2, r3) := H
 have A5 := Aside0.mk A50
 clear A50
 replace H := Option.bind_eq_some_iff.mp H
 obtain ⟨t106, A60, H⟩ := H
 replace H : ((market_when.f (decide (a1 > t104)) 24).bind fun t107 => ((market_first.f k (([t105, t106, t107] : List Int))).bind fun t111 => (if t111 = 0 then ((market_Bid_int__market_Clear_2.f k l0 ()).bind fun t112 => (if 0 ≤ (l0.length : Int) then (if ((l0.length : Int) : Int).toNat ≤ 35184372088832 then ((sortCompact.f t112).bind fun t118 => (market_Clear.l0 k l0 a1 (List.replicate ((l0.length : Int) : Int).toNat 0) 0 t118 (t118.length : Int) 0)) else (none)) else (none))) else (some (([] : List Int), 0, t111))))) = some (r1, r2, r3) := H
 have A6 := Aside0.mk A60
 clear A60
 replace H := Option.bind_eq_some_iff.mp H
 obtain ⟨t107, A70, H⟩ := H
 replace H : ((market_first.f k (([t105, t106, t107] : List Int))).bind fun t111 => (if t111 = 0 then ((market_Bid_int__market_Clear_2.f k l0 ()).bind fun t112 => (if 0 ≤ (l0.length : Int) then (if ((l0.length : Int) : Int).toNat ≤ 35184372088832 then ((sortCompact.f t112).bind fun t118 => (market_Clear.l0 k l0 a1 (List.replicate ((l0.length : Int) : Int).toNat 0) 0 t118 (t118.length : Int) 0)) else (none)) else (none))) else (some (([] : List Int), 0, t111)))) = some (r1, r2, r3) := H
 have A7 := Aside0.mk A70
 clear A70
 obtain ⟨y108, hy108⟩ : ∃ y_ : List Int, y_ = (([t105, t106, t107] : List Int)) := ⟨_, rfl⟩
 replace H : ((market_first.f k y108).bind fun t111 => (if t111 = 0 then ((market_Bid_int__market_Clear_2.f k l0 ()).bind fun t112 => (if 0 ≤ (l0.length : Int) then (if ((l0.length : Int) : Int).toNat ≤ 35184372088832 then ((sortCompact.f t112).bind fun t118 => (market_Clear.l0 k l0 a1 (List.replicate ((l0.length : Int) : Int).toNat 0) 0 t118 (t118.length : Int) 0)) else (none)) else (none))) else (some (([] : List Int), 0, t111)))) = some (r1, r2, r3) := by first | (rw [hy108]; with_reducible exact H) | (have H2_ := (Option.bind_some _ _).symm.trans H; rw [hy108]; with_reducible exact H2_) | (have H2_ := (Option.bind_some _ _).symm.trans H; with_reducible exact H2_) | with_reducible exact H | (rw [hy108]; exact H) | exact H
 have Ny108 := Aside0.mk hy108
 clear hy108
 replace H := Option.bind_eq_some_iff.mp H
 obtain ⟨t111, A80, H⟩ := H
 replace H : (if t111 = 0 then ((market_Bid_int__market_Clear_2.f k l0 ()).bind fun t112 => (if 0 ≤ (l0.length : Int) then (if ((l0.length : Int) : Int).toNat ≤ 35184372088832 then ((sortCompact.f t112).bind fun t118 => (market_Clear.l0 k l0 a1 (List.replicate ((l0.length : Int) : Int).toNat 0) 0 t118 (t118.length : Int) 0)) else (none)) else (none))) else (some (([] : List Int), 0, t111))) = some (r1, r2, r3) := H
 have A8 := Aside0.mk A80
 clear A80
 by_cases c9 : t111 = 0
 ·rw [if_pos c9] at H
  have c9b0 : (t111 == 0) = true := beq_iff_eq.mpr c9
  have c9b1 : (t111 != 0) = false := bne_eq_false_iff_eq.mpr c9
  clear c9
  replace H := Option.bind_eq_some_iff.mp H
  obtain ⟨t112, A100, H⟩ := H
  replace H : (if 0 ≤ (l0.length : Int) then (if ((l0.length : Int) : Int).toNat ≤ 35184372088832 then ((sortCompact.f t112).bind fun t118 => (market_Clear.l0 k l0 a1 (List.replicate ((l0.length : Int) : Int).toNat 0) 0 t118 (t118.length : Int) 0)) else (none)) else (none)) = some (r1, r2, r3) := H
  have A10 := Aside0.mk A100
  clear A100
  by_cases c11 : 0 ≤ (l0.length : Int)
  ·rw [if_pos c11] at H
   have c11b0 := eq_true c11
   have c11b1 : decide (0 ≤ (l0.length : Int)) = true := decide_eq_true c11
   clear c11
   by_cases c12 : ((l0.length : Int) : Int).toNat ≤ 35184372088832
   ·rw [if_pos c12] at H
    have c12b0 := eq_true c12
    have c12b1 : decide (((l0.length : Int) : Int).toNat ≤ 35184372088832) = true := decide_eq_true c12
    clear c12
    obtain ⟨y115, hy115⟩ : ∃ y_ : List Int, y_ = (List.replicate ((l0.length : Int) : Int).toNat 0) := ⟨_, rfl⟩
    replace H : ((sortCompact.f t112).bind fun t118 => (market_Clear.l0 k l0 a1 y115 0 t118 (t118.length : Int) 0)) = some (r1, r2, r3) := by first | (rw [hy115]; with_reducible exact H) | (have H2_ := (Option.bind_some _ _).symm.trans H; rw [hy115]; with_reducible exact H2_) | (have H2_ := (Option.bind_some _ _).symm.trans H; with_reducible exact H2_) | with_reducible exact H | (rw [hy115]; exact H) | exact H
    have Ny115 := Aside0.mk hy115
    clear hy115
    replace H := Option.bind_eq_some_iff.mp H
    obtain ⟨t118, A130, H⟩ := H
    replace H : (market_Clear.l0 k l0 a1 y115 0 t118 (t118.length : Int) 0) = some (r1, r2, r3) := H
    have A13 := Aside0.mk A130
    clear A130
    have H' := Aside0.mk H
    clear H
    go_enter Tryz.func40, Tryz.ntmps40
    go_wp2_with (first | ((with_reducible refine gate_callee (f := 105) rfl ?_); refine gl_ (some 21) Tryz.func105 #[.slice A0 l0.length c0, .func (.func 106) #[] #[]] ?_; (with_reducible refine (market_Bid_int__market_Clear_1.calls k _ _ l0 () t101 _ ?side1 ?side2 A3.out).mono ?_); (case side1 => exact cs_ HR0.out); (case side2 => exact HC0.out); rintro e w14 ⟨v102, rfl, ho0, hb⟩; refine ⟨_, rfl, ?_⟩; have n0_ := Aside0.mk (Kd.R_lower ho0 (below_size (ws_ HB.out))); have n1_ := Aside0.mk (below_step (ws_ HB.out) hb); clear HB; have HO103 := n0_; have HB := n1_; clear n0_ n1_; (try clear hb); (try clear hb2); (try clear hk); (try clear hi); (try clear ho0); obtain ⟨Ao15, co15, eo15⟩ := Kd.R_slice HO103.out; subst eo15) | ((with_reducible refine gate_callee (f := 104) rfl ?_); refine gl_ (some 22) Tryz.func104 #[.slice Ao15 t101.length co15] ?_; (with_reducible refine (market_sum.calls k _ _ t101 t104 _ ?side1 ?side2 A4.out).mono ?_); (case side1 => repeat (first | exact (Kd.R_reads' HO103.out).2.2 | (with_reducible refine Kd.C_alloc ?_ _) | (with_reducible refine Kd.C_drewN ?_ _) | (with_reducible refine Kd.C_drew ?_))); (case side2 => exact (Kd.R_reads' HO103.out).2.1); rintro e w' ⟨rfl, ⟨nd, rfl⟩⟩; refine ⟨_, rfl, ?_⟩) | ((with_reducible refine gate_callee (f := 44) rfl ?_); refine gl_ (some 24) Tryz.func44 #[.slice A0 l0.length c0] ?_; (with_reducible refine (market_CheckBids.calls k _ _ l0 t105 _ ?side1 ?side2 A5.out).mono ?_); (case side1 => repeat (first | exact (Kd.C_below HR0.out (ws_ HB.out)) | (with_reducible refine Kd.C_alloc ?_ _) | (with_reducible refine Kd.C_drewN ?_ _) | (with_reducible refine Kd.C_drew ?_))); (case side2 => exact HC0.out); rintro e w16 ⟨rfl, hb⟩; refine ⟨_, rfl, ?_⟩; have n0_ := Aside0.mk (Kd.R_below (rs_ HO103.out) hb); have n1_ := Aside0.mk (below_step (ws_ HB.out) hb); clear HO103; clear HB; have HO103 := n0_; have HB := n1_; clear n0_ n1_; (try clear hb); (try clear hb2); (try clear hk); (try clear hi)) | ((with_reducible refine gate_callee (f := 101) rfl ?_); refine gl_ (some 26) Tryz.func101 #[.int .i64 a1] ?_; (with_reducible refine (market_checkTotal.calls a1 t106 _ A6.out).mono ?_); rintro e w' ⟨rfl, ⟨nd, rfl⟩⟩; refine ⟨_, rfl, ?_⟩) | ((with_reducible refine gate_callee (f := 90) rfl ?_); refine gl_ (some 30) Tryz.func90 #[.bool (decide (a1 > t104)), .int .i64 24] ?_; (with_reducible refine (market_when.calls (decide (a1 > t104)) 24 t107 _ A7.out).mono ?_); rintro e w' ⟨rfl, ⟨nd, rfl⟩⟩; refine ⟨_, rfl, ?_⟩) | ((with_reducible refine gate_dst (N := 31) rfl ?_); refine Kd.R_lit (Kd.int .i64) _ 28 ?hg (N := 31) ?hd (xs := ([t105, t106, t107] : List Int)) (inner := [.int .i64 t105, .int .i64 t106, .int .i64 t107]) (ok := fun _ => True) (okp := fun _ => True) ?hr ?hp (fun _ hk => hk) trivial (Below.refl _ _) (Nat.le_refl _) (by simp) ?_; (case hd => rfl); (case hg => rfl); (case hr => first | (go_simp; done) | (go_simp; rfl)); (case hp => exact (Reps.one (show Kd.M (Kd.int .i64) _ _ _ t105 [.int .i64 t105] from rfl) (Reps.one (show Kd.M (Kd.int .i64) _ _ _ t106 [.int .i64 t106] from rfl) (Reps.one (show Kd.M (Kd.int .i64) _ _ _ t107 [.int .i64 t107] from rfl) (Reps.none _ _))))); intro v109 w17 ho18 hb hg_ hnew_; clear hg_ hnew_; (first | rw [← Ny108.out] at ho18 | (simp only [Int.reduceToNat] at ho18; rw [← Ny108.out] at ho18)); have n0_ := Aside0.mk (Kd.R_below (rs_ HO103.out) hb); have n1_ := Aside0.mk (Kd.R_lower ho18 (below_size (ws_ HB.out))); have n2_ := Aside0.mk (below_step (ws_ HB.out) hb); clear HO103; clear HB; have HO103 := n0_; have HO110 := n1_; have HB := n2_; clear n0_ n1_ n2_; clear hb ho18; obtain ⟨Ao19, co19, eo19⟩ := Kd.R_slice HO110.out; subst eo19) | ((with_reducible refine gate_callee (f := 85) rfl ?_); refine gl_ (some 32) Tryz.func85 #[.slice Ao19 y108.length co19] ?_; (with_reducible refine (market_first.calls k _ _ y108 t111 _ ?side1 ?side2 A8.out).mono ?_); (case side1 => repeat (first | exact (Kd.R_reads' HO110.out).2.2 | (with_reducible refine Kd.C_alloc ?_ _) | (with_reducible refine Kd.C_drewN ?_ _) | (with_reducible refine Kd.C_drew ?_))); (case side2 => exact (Kd.R_reads' HO110.out).2.1); rintro e w' ⟨rfl, ⟨nd, rfl⟩⟩; refine ⟨_, rfl, ?_⟩) | ((with_reducible refine gate_callee (f := 105) rfl ?_); refine gl_ (some 37) Tryz.func105 #[.slice A0 l0.length c0, .func (.func 107) #[] #[]] ?_; (with_reducible refine (market_Bid_int__market_Clear_2.calls k _ _ l0 () t112 _ ?side1 ?side2 A10.out).mono ?_); (case side1 => repeat (first | exact (Kd.C_below HR0.out (ws_ HB.out)) | (with_reducible refine Kd.C_alloc ?_ _) | (with_reducible refine Kd.C_drewN ?_ _) | (with_reducible refine Kd.C_drew ?_))); (case side2 => exact HC0.out); rintro e w20 ⟨v113, rfl, ho0, hb⟩; refine ⟨_, rfl, ?_⟩; have n0_ := Aside0.mk (Kd.R_elder' (rs_ HO103.out) (Kd.R_base ho0) hb); have n1_ := Aside0.mk (Kd.R_below (rs_ HO110.out) hb); have n2_ := Aside0.mk (Kd.R_lower (Kd.R_new' ho0 (Kd.R_lt (rs_ HO103.out))) (below_size (ws_ HB.out))); have n3_ := Aside0.mk (below_step (ws_ HB.out) hb); clear HO103; clear HO110; clear HB; have HO103 := n0_; have HO110 := n1_; have HO114 := n2_; have HB := n3_; clear n0_ n1_ n2_ n3_; (try clear hb); (try clear hb2); (try clear hk); (try clear hi); (try clear ho0)) | ((with_reducible refine gate_callee (f := 108) rfl ?_); refine gl_ (some 39) Tryz.func108 #[v113] ?_; refine (sort_R (rs_ HO114.out) (ws_ HB.out) (below_size (ws_ HB.out)) (sortCompact_spec A13.out).1).mono ?_; rintro e w24s ⟨rfl, ho0, hb, hg⟩; refine ⟨_, rfl, ?_⟩; have n0_ := Aside0.mk (Kd.R_grown HO103.out hg (fun _ hk => hk.2)); have n1_ := Aside0.mk (Kd.R_over' (rs_ HO110.out) (Kd.R_typed (rs_ HO114.out)) (by decide) hg); have n2_ := Aside0.mk ho0; have n5_ := Aside0.mk hb; clear HO103 HO110 HO114 HB; have HO103 := n0_; have HO110 := n1_; have HO114 := n2_; have HB := n5_; clear n0_ n1_ n2_ n5_; clear hb hg ho0) | ((with_reducible refine gate_dst (N := 42) rfl ?_); refine Kd.R_make (Kd.int .i64) _ 3 rfl (N := 42) rfl 52 _ _ rfl (l0.length : Int) rfl rfl Tryz.underlying52 (.int .i64 0) 8 info3 rfl (by decide) (by omega) 0 (ok := fun _ => True) (okp := fun _ => True) rfl (fun _ hk => hk) trivial (of_decide_eq_true (by first | (with_reducible assumption) | assumption)) (Nat.le_trans (Nat.mul_le_mul_right _ (of_decide_eq_true (by first | (with_reducible assumption) | assumption) : (l0.length : Int).toNat ≤ 35184372088832)) (by omega)) (Below.refl _ _) (Nat.le_refl _) ?_; intro v116 w21 ho22 hb hg_ hnew_; clear hg_ hnew_; (first | rw [← Ny115.out] at ho22 | (simp only [Int.reduceToNat] at ho22; rw [← Ny115.out] at ho22)); have n0_ := Aside0.mk (Kd.R_elder' (rs_ HO103.out) (Kd.R_base ho22) hb); have n1_ := Aside0.mk (Kd.R_below (rs_ HO110.out) hb); have n2_ := Aside0.mk (Kd.R_elder' (rs_ HO114.out) (Kd.R_base ho22) hb); have n3_ := Aside0.mk (Kd.R_lower (Kd.R_new' (Kd.R_new' ho22 (Kd.R_lt (rs_ HO103.out))) (Kd.R_lt (rs_ HO114.out))) (below_size (ws_ HB.out))); have n4_ := Aside0.mk (below_step (ws_ HB.out) hb); clear HO103; clear HO110; clear HO114; clear HB; have HO103 := n0_; have HO110 := n1_; have HO114 := n2_; have HO117 := n3_; have HB := n4_; clear n0_ n1_ n2_ n3_ n4_; clear hb ho22; obtain ⟨Ao23, co23, eo23⟩ := Kd.R_slice HO114.out; subst eo23) | ((with_reducible refine gate_callee (f := 109) rfl ?_); refine gl_ (some 44) Tryz.func109 #[.slice Ao23 (isort t112).length co23] ?_; refine (compact_R (rs_ HO114.out) (ws_ HB.out) (below_size (ws_ HB.out)) (by rw [isort_length]; exact (sortCompact_spec A13.out).1)).mono ?_; rintro e w24 ⟨v119, rfl, ho0, hb, hg, hv_⟩; refine ⟨_, rfl, ?_⟩; rw [(sortCompact_spec A13.out).2] at ho0; have n0_ := Aside0.mk (Kd.R_grown HO103.out hg (fun _ hk => hk.1.2)); have n1_ := Aside0.mk (Kd.R_over' (rs_ HO110.out) (Kd.R_typed (rs_ HO114.out)) (by decide) hg); have n3_ := Aside0.mk (Kd.R_mono (ok' := fun k_ => True ∧ some k_ ≠ (v119 : Value).ownBlock) (Kd.R_grown HO117.out hg (fun _ hk => hk.2)) (fun _ hk => ⟨trivial, by rw [hv_]; exact hk.2⟩)); have n4_ := Aside0.mk ho0; have n5_ := Aside0.mk hb; clear HO103 HO110 HO114 HO117 HB; have HO103 := n0_; have HO110 := n1_; have HO117 := n3_; have HO120 := n4_; have HB := n5_; clear n0_ n1_ n3_ n4_ n5_; clear hb hg ho0 hv_; obtain ⟨Ao25, co25, eo25⟩ := Kd.R_slice HO120.out; subst eo25))
    go_loopg [1, 11, 46] k (fun kq v1 v11 v46 w' => ∃ (x1_1 : Int) (x10_1 : List Int) (x11_1 : Int) (x46_1 : Int), v1 = .int .i64 x1_1 ∧ v11 = .int .i64 x11_1 ∧ v46 = .int .i64 x46_1 ∧ Aside0 (market_Clear.l0 kq l0 x1_1 x10_1 x11_1 t118 (t118.length : Int) x46_1 = some (r1, r2, r3)) ∧ Aside0 (kq ≤ k) ∧ Aside0 (Kd.R (Kd.int .i64) 3 w' w.heap.size (fun k_ => some k_ ≠ ((.slice Ao25 t118.length co25) : Value).ownBlock) v116 x10_1) ∧ Aside0 (Kd.R (Kd.int .i64) 3 w' w.heap.size (fun k_ => some k_ ≠ (v116 : Value).ownBlock) (.slice Ao25 t118.length co25) t118) ∧ Aside0 (Below w.heap.size w w'))
    case atStart => exact ⟨(a1), (y115), (0), (0), (by first | rfl | (simp; done) | (simp [*]; done)), (by first | rfl | (simp; done) | (simp [*]; done)), (by first | rfl | (simp; done) | (simp [*]; done)), H', ⟨Nat.le_refl _⟩, ⟨by (with_reducible repeat (first | apply Kd.R_alloc | apply Kd.R_drewN | apply Kd.R_drew)); exact Kd.R_mono HO117.out (fun _ hk => hk.2)⟩, ⟨by (with_reducible repeat (first | apply Kd.R_alloc | apply Kd.R_drewN | apply Kd.R_drew)); exact Kd.R_mono HO120.out (fun _ hk => hk.2)⟩, ⟨by repeat (first | (with_reducible first | exact HB.out | apply below_alloc | apply pw_below_drewN | apply below_drew1) | exact HB.out)⟩⟩
    case round =>
     clear H'
     try clear c1
     try clear p2
     try clear c4
     try clear c8
     try clear c9
     try clear c9b0
     try clear c9b1
     try clear c10
     try clear c11
     try clear c11b0
     try clear c11b1
     try clear c12
     try clear c12b0
     try clear c12b1
     obtain ⟨x1_1, x10_1, x11_1, x46_1, rfl, rfl, rfl, HA, HK1, HO_10, HO_44, HB⟩ := hrel
     cases gk with
     | zero => exact absurd HA.out (by simp [market_Clear.l0])
     | succ k1 =>
      have H := HA.out
      clear HA
      simp only [market_Clear.l0] at H
      by_cases c26 : x46_1 < (t118.length : Int)
      ·rw [if_pos c26] at H
       have c26b0 : decide (x46_1 < (t118.length : Int)) = true := decide_eq_true c26
       clear c26
       by_cases c27 : 0 ≤ x46_1
       ·rw [if_pos c27] at H
        have c27b0 : decide (0 ≤ x46_1) = true := decide_eq_true c27
        clear c27
        by_cases c28 : x46_1 < (t118.length : Int)
        ·rw [if_pos c28] at H
         have c28b0 : decide (x46_1 < (t118.length : Int)) = true := decide_eq_true c28
         clear c28
         have H' := Aside0.mk H
         clear H
         have p121 : 0 ≤ (x46_1 : Int) := of_decide_eq_true (by first | (with_reducible assumption) | assumption)
         have q121 : x46_1 < (t118.length : Int) := of_decide_eq_true (by first | (with_reducible assumption) | assumption)
         obtain ⟨ad121, e121, hx121_0⟩ := Kd.at_int (Kd.R_reads' HO_44.out).2.2 x46_1 p121 q121
         cases e121
         replace p121 := eq_true p121
         replace q121 := eq_true q121
         go_wp2
         go_loopg [14, 52] k1 (fun kq v14 v52 w' => ∃ (x14_2 : List Int) (x52_2 : Int), v52 = .int .i64 x52_2 ∧ Aside0 (market_Clear.l1 kq l0 x1_1 x10_1 x11_1 (rd t118 x46_1) x14_2 t118 (t118.length : Int) x46_1 l0 (l0.length : Int) x52_2 = some (r1, r2, r3)) ∧ Aside0 (kq ≤ k1) ∧ Aside0 (Kd.R (Kd.int .i64) 3 w' w.heap.size (fun k_ => some k_ ≠ (v14 : Value).ownBlock ∧ some k_ ≠ ((.slice (some ad121) t118.length co25) : Value).ownBlock) v116 x10_1) ∧ Aside0 (Kd.R (Kd.int .i64) 3 w' w.heap.size (fun k_ => some k_ ≠ (v116 : Value).ownBlock ∧ some k_ ≠ ((.slice (some ad121) t118.length co25) : Value).ownBlock) v14 x14_2) ∧ Aside0 (Kd.R (Kd.int .i64) 3 w' w.heap.size (fun k_ => some k_ ≠ (v116 : Value).ownBlock ∧ some k_ ≠ (v14 : Value).ownBlock) (.slice (some ad121) t118.length co25) t118) ∧ Aside0 (Below w.heap.size w w'))
         case atStart => exact ⟨(([] : List Int)), (0), (by first | rfl | (simp; done) | (simp [*]; done)), H', ⟨Nat.le_refl _⟩, ⟨by (with_reducible repeat (first | apply Kd.R_alloc | apply Kd.R_drewN | apply Kd.R_drew)); exact Kd.R_mono HO_10.out (fun _ hk => ⟨(by simp [Value.ownBlock]), hk⟩)⟩, ⟨by first | exact Kd.R_nil _ _ _ _ _ | exact Kd.N_nil _ _ _ _ _ | exact Kd.V_nil _ _ _ _ _ | exact Kd.Q_nil _ _ _ _ _ | exact Kd.S_nil _ _ _ _ _⟩, ⟨by (with_reducible repeat (first | apply Kd.R_alloc | apply Kd.R_drewN | apply Kd.R_drew)); exact Kd.R_mono HO_44.out (fun _ hk => ⟨hk, (by simp [Value.ownBlock])⟩)⟩, ⟨by repeat (first | (with_reducible first | exact HB.out | apply below_alloc | apply pw_below_drewN | apply below_drew1) | exact HB.out)⟩⟩
         case round =>
          clear H'
          try clear c1
          try clear p1
          try clear q1
          try clear hx1
          try clear c2
          try clear p2
          try clear c4
          try clear c8
          try clear c9
          try clear c9b0
          try clear c9b1
          try clear c10
          try clear c11
          try clear c11b0
          try clear c11b1
          try clear c12
          try clear c12b0
          try clear c12b1
          try clear p12
          try clear q12
          try clear hx12
          try clear c26
          try clear c26b0
          try clear c27
          try clear c27b0
          try clear c28
          try clear c28b0
          try clear hx121_0
          try clear p121
          try clear p2
          try clear q121
          obtain ⟨x14_2, x52_2, rfl, HA, HK2, HO_10, HO_14, HO_44, HB⟩ := hrel
          cases gk with
          | zero => exact absurd HA.out (by simp [market_Clear.l1])
          | succ k2 =>
           have H := HA.out
           clear HA
           simp only [market_Clear.l1] at H
           by_cases c29 : x52_2 < (l0.length : Int)
           ·rw [if_pos c29] at H
            have c29b0 : decide (x52_2 < (l0.length : Int)) = true := decide_eq_true c29
            clear c29
            by_cases c30 : 0 ≤ x52_2
            ·rw [if_pos c30] at H
             have c30b0 : decide (0 ≤ x52_2) = true := decide_eq_true c30
             clear c30
             by_cases c31 : x52_2 < (l0.length : Int)
             ·rw [if_pos c31] at H
              have c31b0 : decide (x52_2 < (l0.length : Int)) = true := decide_eq_true c31
              clear c31
              by_cases c32 : ((rd_T150 l0 x52_2).f2) = (rd t118 x46_1)
              ·rw [if_pos c32] at H
               have c32b0 : (((rd_T150 l0 x52_2).f2) == (rd t118 x46_1)) = true := beq_iff_eq.mpr c32
               have c32b1 : (((rd_T150 l0 x52_2).f2) != (rd t118 x46_1)) = false := bne_eq_false_iff_eq.mpr c32
               clear c32
               by_cases c33 : x14_2.length < 17592186044416
               ·rw [if_pos c33] at H
                have LMc33 := Aside0.mk c33
                clear c33
                obtain ⟨y124, hy124⟩ : ∃ y_ : List Int, y_ = (x14_2 ++ [(rd_T150 l0 x52_2).f1]) := ⟨_, rfl⟩
                replace H : (market_Clear.l1 k2 l0 x1_1 x10_1 x11_1 (rd t118 x46_1) y124 t118 (t118.length : Int) x46_1 l0 (l0.length : Int) (wrap64 (x52_2 + 1))) = some (r1, r2, r3) := by first | (rw [hy124]; with_reducible exact H) | (have H2_ := (Option.bind_some _ _).symm.trans H; rw [hy124]; with_reducible exact H2_) | (have H2_ := (Option.bind_some _ _).symm.trans H; with_reducible exact H2_) | with_reducible exact H | (rw [hy124]; exact H) | exact H
                have Ny124 := Aside0.mk hy124
                clear hy124
                have H' := Aside0.mk H
                clear H
                have p122 : 0 ≤ (x52_2 : Int) := of_decide_eq_true (by first | (with_reducible assumption) | assumption)
                have q122 : x52_2 < (l0.length : Int) := of_decide_eq_true (by first | (with_reducible assumption) | assumption)
                obtain ⟨ad122, e122, hx122_0, hx122_1, hx122_2⟩ := at_T150 HR0.out x52_2 p122 q122
                cases e122
                replace hx122_0 := (HB.out.cell (World.block_lt_of_cell? w _ hx122_0)).trans hx122_0
                replace hx122_1 := (HB.out.cell (World.block_lt_of_cell? w _ hx122_1)).trans hx122_1
                replace hx122_2 := (HB.out.cell (World.block_lt_of_cell? w _ hx122_2)).trans hx122_2
                replace p122 := eq_true p122
                replace q122 := eq_true q122
                go_wp2_with (first | ((with_reducible refine gate_dst (N := 16) rfl ?_); refine box_event ?hg (N := 16) ?hd (cs := #[.string (⟨#[]⟩ : ByteArray), .int .i64 0, .int .i64 0]) (t := 150) ?hr ?_; (case hd => rfl); (case hg => rfl); (case hr => first | (go_simp; done) | (go_simp; rfl)); intro gb123 hg w34 hbox hb; have n0_ := Aside0.mk (Kd.R_below (rs_ HO_10.out) hb); have n1_ := Aside0.mk (Kd.R_below (rs_ HO_14.out) hb); have n2_ := Aside0.mk (Kd.R_below (rs_ HO_44.out) hb); have n3_ := Aside0.mk (below_step (ws_ HB.out) hb); have n4_ := Aside0.mk (hbox); have n5_ := Aside0.mk ((by rw [hg]; exact (below_size (ws_ HB.out)) : w.heap.size ≤ gb123)); have n6_ := Aside0.mk ((by rw [hg]; exact (below_size (ws_ HB.out)) : w.heap.size ≤ gb123)); clear HO_10; clear HO_14; clear HO_44; clear HB; have HO_10 := n0_; have HO_14 := n1_; have HO_44 := n2_; have HB := n3_; have BK123 := n4_; have GW123 := n5_; have GE123 := n6_; clear n0_ n1_ n2_ n3_ n4_ n5_ n6_; clear hb hbox hg; have hcz35_0 : w34.cell? ⟨gb123, 0, none⟩ = some (.string (⟨#[]⟩ : ByteArray)) := (blk_cell BK123.out 0).trans rfl; have hcz35_1 : w34.cell? ⟨gb123, 1, none⟩ = some (.int .i64 0) := (blk_cell BK123.out 1).trans rfl; have hcz35_2 : w34.cell? ⟨gb123, 2, none⟩ = some (.int .i64 0) := (blk_cell BK123.out 2).trans rfl; have hfz35_0 := blk_frozen BK123.out 0; have hfz35_1 := blk_frozen BK123.out 1; have hfz35_2 := blk_frozen BK123.out 2) | ((with_reducible refine gate_builtin (b := .append) (xs := #[.tmp 60, .tmp 63]) rfl ?_); at_builtin; refine Kd.R_append (Kd.int .i64) (w0 := w) w.heap.size rfl (.tmp 60) (.tmp 63) 52 3 (.int .i64 0) 8 rfl Tryz.underlying52 info3 rfl (by decide) (by omega) u14 x14_2 ((rd_T150 l0 x52_2).f1) [.int .i64 ((rd_T150 l0 x52_2).f1)] (fun k_ => some k_ ≠ (v116 : Value).ownBlock ∧ some k_ ≠ (.slice (some ad121) t118.length co25 : Value).ownBlock) (fun _ => False) rfl (by first | (go_simp; done) | (go_simp; rfl)) ?aP (fun _ hk => hk.elim) ?aF ?aO ?aB ?aS ?aL ?_; (case aP => exact rfl); (case aB => exact (wg_ HB.out GE123.out)); (case aF => exact (fun k_ hk => ⟨Kd.fresh' (Kd.R_lt (by (with_reducible repeat (first | apply Kd.R_alloc | apply Kd.R_drewN | apply Kd.R_drew)); exact (Kd.R_mono (Kd.R_far (p := ⟨gb123, 2, none⟩) (Kd.R_far (p := ⟨gb123, 1, none⟩) (Kd.R_far (p := ⟨gb123, 0, none⟩) (Kd.R_types HO_10.out BK123.out (by decide)) (fun _ hk => hk.2) (.string ((rd_T150 l0 x52_2).f0))) (fun _ hk => hk.2) (.int .i64 ((rd_T150 l0 x52_2).f1))) (fun _ hk => hk.2) (.int .i64 ((rd_T150 l0 x52_2).f2))) (fun _ h_ => h_.1)))) k_ hk, Kd.fresh' (Kd.R_lt (by (with_reducible repeat (first | apply Kd.R_alloc | apply Kd.R_drewN | apply Kd.R_drew)); exact (Kd.R_mono (Kd.R_far (p := ⟨gb123, 2, none⟩) (Kd.R_far (p := ⟨gb123, 1, none⟩) (Kd.R_far (p := ⟨gb123, 0, none⟩) (Kd.R_types HO_44.out BK123.out (by decide)) (fun _ hk => hk.2) (.string ((rd_T150 l0 x52_2).f0))) (fun _ hk => hk.2) (.int .i64 ((rd_T150 l0 x52_2).f1))) (fun _ hk => hk.2) (.int .i64 ((rd_T150 l0 x52_2).f2))) (fun _ h_ => h_.1)))) k_ hk⟩)); (case aO => exact (by (with_reducible repeat (first | apply Kd.R_alloc | apply Kd.R_drewN | apply Kd.R_drew)); exact Kd.R_mono (Kd.R_far (p := ⟨gb123, 2, none⟩) (Kd.R_far (p := ⟨gb123, 1, none⟩) (Kd.R_far (p := ⟨gb123, 0, none⟩) (Kd.R_types HO_14.out BK123.out (by decide)) (fun _ hk => hk.2) (.string ((rd_T150 l0 x52_2).f0))) (fun _ hk => hk.2) (.int .i64 ((rd_T150 l0 x52_2).f1))) (fun _ hk => hk.2) (.int .i64 ((rd_T150 l0 x52_2).f2))) (fun _ hk => ⟨hk.1.1, hk.1.2⟩))); (case aS => exact (below_size (wg_ HB.out GE123.out))); (case aL => have := LMc33.out; omega); intro v125 w36 ho hb hg hat; rw [← Ny124.out] at ho; have n0_ := Aside0.mk (Kd.R_after (ok := (fun k_ => some k_ ≠ (.slice (some ad121) t118.length co25 : Value).ownBlock)) (by (with_reducible repeat (first | apply Kd.R_alloc | apply Kd.R_drewN | apply Kd.R_drew)); exact Kd.R_mono (Kd.R_far (p := ⟨gb123, 2, none⟩) (Kd.R_far (p := ⟨gb123, 1, none⟩) (Kd.R_far (p := ⟨gb123, 0, none⟩) (Kd.R_types HO_10.out BK123.out (by decide)) (fun _ hk => hk.2) (.string ((rd_T150 l0 x52_2).f0))) (fun _ hk => hk.2) (.int .i64 ((rd_T150 l0 x52_2).f1))) (fun _ hk => hk.2) (.int .i64 ((rd_T150 l0 x52_2).f2))) (fun _ hk => ⟨hk.1.2, hk.1.1⟩)) hg hat); have n1_ := Aside0.mk (Kd.R_after (ok := (fun k_ => some k_ ≠ (v116 : Value).ownBlock)) (by (with_reducible repeat (first | apply Kd.R_alloc | apply Kd.R_drewN | apply Kd.R_drew)); exact Kd.R_mono (Kd.R_far (p := ⟨gb123, 2, none⟩) (Kd.R_far (p := ⟨gb123, 1, none⟩) (Kd.R_far (p := ⟨gb123, 0, none⟩) (Kd.R_types HO_44.out BK123.out (by decide)) (fun _ hk => hk.2) (.string ((rd_T150 l0 x52_2).f0))) (fun _ hk => hk.2) (.int .i64 ((rd_T150 l0 x52_2).f1))) (fun _ hk => hk.2) (.int .i64 ((rd_T150 l0 x52_2).f2))) (fun _ hk => ⟨hk.1.1, hk.1.2⟩)) hg hat); have n2_ := Aside0.mk (blk_grown (g := gb123) (o := .cells #[.string ((rd_T150 l0 x52_2).f0), .int .i64 ((rd_T150 l0 x52_2).f1), .int .i64 ((rd_T150 l0 x52_2).f2)] 150 (0, 0)) (by (with_reducible repeat (first | refine blk_drewN ?_ _ | refine blk_drew ?_ | refine blk_alloc ?_ _)); refine blk_put (cs := #[.string ((rd_T150 l0 x52_2).f0), .int .i64 ((rd_T150 l0 x52_2).f1), .int .i64 0]) ?_ 2 _ rfl; (with_reducible repeat (first | refine blk_drewN ?_ _ | refine blk_drew ?_ | refine blk_alloc ?_ _)); refine blk_put (cs := #[.string ((rd_T150 l0 x52_2).f0), .int .i64 0, .int .i64 0]) ?_ 1 _ rfl; (with_reducible repeat (first | refine blk_drewN ?_ _ | refine blk_drew ?_ | refine blk_alloc ?_ _)); refine blk_put (cs := #[.string (⟨#[]⟩ : ByteArray), .int .i64 0, .int .i64 0]) ?_ 0 _ rfl; (with_reducible repeat (first | refine blk_drewN ?_ _ | refine blk_drew ?_ | refine blk_alloc ?_ _)); exact BK123.out) hg (Kd.R_ne HO_14.out BK123.out (by decide))); have n3_ := Aside0.mk (hb); have n4_ := Aside0.mk (ho); clear HO_10; clear HO_44; clear BK123; clear HB; clear HO_14; have HO_10 := n0_; have HO_44 := n1_; have BK123 := n2_; have HB := n3_; have HO126 := n4_; clear n0_ n1_ n2_ n3_ n4_; clear ho hb hg hat))
                go_roundg k2
                case measure => have := HK1.out; have := HK2.out; omega
                case rel => exact ⟨(y124), (wrap64 (x52_2 + 1)), (by first | rfl | (simp; done) | (simp [*]; done)), H', ⟨by have := HK1.out; have := HK2.out; omega⟩, ⟨by (with_reducible repeat (first | apply Kd.R_alloc | apply Kd.R_drewN | apply Kd.R_drew)); exact Kd.R_mono HO_10.out (fun _ hk => ⟨hk.2, hk.1⟩)⟩, ⟨by (with_reducible repeat (first | apply Kd.R_alloc | apply Kd.R_drewN | apply Kd.R_drew)); exact HO126.out⟩, ⟨by (with_reducible repeat (first | apply Kd.R_alloc | apply Kd.R_drewN | apply Kd.R_drew)); exact HO_44.out⟩, ⟨by repeat (first | (with_reducible first | exact HB.out | apply below_alloc | apply pw_below_drewN | apply below_drew1 | refine below_set ?_ GE123.out) | exact HB.out)⟩⟩
               ·rw [if_neg c33] at H
                exact absurd H (by simp)
              ·rw [if_neg c32] at H
               have c32b0 : (((rd_T150 l0 x52_2).f2) == (rd t118 x46_1)) = false := beq_eq_false_iff_ne.mpr c32
               have c32b1 : (((rd_T150 l0 x52_2).f2) != (rd t118 x46_1)) = true := bne_iff_ne.mpr c32
               have H' := Aside0.mk H
               clear H
               have p122 : 0 ≤ (x52_2 : Int) := of_decide_eq_true (by first | (with_reducible assumption) | assumption)
               have q122 : x52_2 < (l0.length : Int) := of_decide_eq_true (by first | (with_reducible assumption) | assumption)
               obtain ⟨ad122, e122, hx122_0, hx122_1, hx122_2⟩ := at_T150 HR0.out x52_2 p122 q122
               cases e122
               replace hx122_0 := (HB.out.cell (World.block_lt_of_cell? w _ hx122_0)).trans hx122_0
               replace hx122_1 := (HB.out.cell (World.block_lt_of_cell? w _ hx122_1)).trans hx122_1
               replace hx122_2 := (HB.out.cell (World.block_lt_of_cell? w _ hx122_2)).trans hx122_2
               replace p122 := eq_true p122
               replace q122 := eq_true q122
               go_wp2_with (first | ((with_reducible refine gate_dst (N := 16) rfl ?_); refine box_event ?hg (N := 16) ?hd (cs := #[.string (⟨#[]⟩ : ByteArray), .int .i64 0, .int .i64 0]) (t := 150) ?hr ?_; (case hd => rfl); (case hg => rfl); (case hr => first | (go_simp; done) | (go_simp; rfl)); intro gb123 hg w37 hbox hb; have n0_ := Aside0.mk (Kd.R_below (rs_ HO_10.out) hb); have n1_ := Aside0.mk (Kd.R_below (rs_ HO_14.out) hb); have n2_ := Aside0.mk (Kd.R_below (rs_ HO_44.out) hb); have n3_ := Aside0.mk (below_step (ws_ HB.out) hb); have n4_ := Aside0.mk (hbox); have n5_ := Aside0.mk ((by rw [hg]; exact (below_size (ws_ HB.out)) : w.heap.size ≤ gb123)); have n6_ := Aside0.mk ((by rw [hg]; exact (below_size (ws_ HB.out)) : w.heap.size ≤ gb123)); clear HO_10; clear HO_14; clear HO_44; clear HB; have HO_10 := n0_; have HO_14 := n1_; have HO_44 := n2_; have HB := n3_; have BK123 := n4_; have GW123 := n5_; have GE123 := n6_; clear n0_ n1_ n2_ n3_ n4_ n5_ n6_; clear hb hbox hg; have hcz38_0 : w37.cell? ⟨gb123, 0, none⟩ = some (.string (⟨#[]⟩ : ByteArray)) := (blk_cell BK123.out 0).trans rfl; have hcz38_1 : w37.cell? ⟨gb123, 1, none⟩ = some (.int .i64 0) := (blk_cell BK123.out 1).trans rfl; have hcz38_2 : w37.cell? ⟨gb123, 2, none⟩ = some (.int .i64 0) := (blk_cell BK123.out 2).trans rfl; have hfz38_0 := blk_frozen BK123.out 0; have hfz38_1 := blk_frozen BK123.out 1; have hfz38_2 := blk_frozen BK123.out 2))
               go_roundg k2
               case measure => have := HK1.out; have := HK2.out; omega
               case rel => exact ⟨(x14_2), (wrap64 (x52_2 + 1)), (by first | rfl | (simp; done) | (simp [*]; done)), H', ⟨by have := HK1.out; have := HK2.out; omega⟩, ⟨by (with_reducible repeat (first | apply Kd.R_alloc | apply Kd.R_drewN | apply Kd.R_drew)); exact Kd.R_mono (Kd.R_far (p := ⟨gb123, 2, none⟩) (Kd.R_far (p := ⟨gb123, 1, none⟩) (Kd.R_far (p := ⟨gb123, 0, none⟩) (Kd.R_types HO_10.out BK123.out (by decide)) (fun _ hk => hk.2) (.string ((rd_T150 l0 x52_2).f0))) (fun _ hk => hk.2) (.int .i64 ((rd_T150 l0 x52_2).f1))) (fun _ hk => hk.2) (.int .i64 ((rd_T150 l0 x52_2).f2))) (fun _ hk => ⟨hk.1.1, hk.1.2⟩)⟩, ⟨by (with_reducible repeat (first | apply Kd.R_alloc | apply Kd.R_drewN | apply Kd.R_drew)); exact Kd.R_mono (Kd.R_far (p := ⟨gb123, 2, none⟩) (Kd.R_far (p := ⟨gb123, 1, none⟩) (Kd.R_far (p := ⟨gb123, 0, none⟩) (Kd.R_types HO_14.out BK123.out (by decide)) (fun _ hk => hk.2) (.string ((rd_T150 l0 x52_2).f0))) (fun _ hk => hk.2) (.int .i64 ((rd_T150 l0 x52_2).f1))) (fun _ hk => hk.2) (.int .i64 ((rd_T150 l0 x52_2).f2))) (fun _ hk => ⟨hk.1.1, hk.1.2⟩)⟩, ⟨by (with_reducible repeat (first | apply Kd.R_alloc | apply Kd.R_drewN | apply Kd.R_drew)); exact Kd.R_mono (Kd.R_far (p := ⟨gb123, 2, none⟩) (Kd.R_far (p := ⟨gb123, 1, none⟩) (Kd.R_far (p := ⟨gb123, 0, none⟩) (Kd.R_types HO_44.out BK123.out (by decide)) (fun _ hk => hk.2) (.string ((rd_T150 l0 x52_2).f0))) (fun _ hk => hk.2) (.int .i64 ((rd_T150 l0 x52_2).f1))) (fun _ hk => hk.2) (.int .i64 ((rd_T150 l0 x52_2).f2))) (fun _ hk => ⟨hk.1.1, hk.1.2⟩)⟩, ⟨by repeat (first | (with_reducible first | exact HB.out | apply below_alloc | apply pw_below_drewN | apply below_drew1 | refine below_set ?_ GE123.out) | exact HB.out)⟩⟩
             ·rw [if_neg c31] at H
              exact absurd H (by simp)
            ·rw [if_neg c30] at H
             exact absurd H (by simp)
           ·rw [if_neg c29] at H
            have c29b0 : decide (x52_2 < (l0.length : Int)) = false := decide_eq_false c29
            clear c29
            replace H := Option.bind_eq_some_iff.mp H
            obtain ⟨t127, A390, H⟩ := H
            replace H : ((market_sum.f k2 t127).bind fun t130 => (if t130 > 0 then (market_Clear.j2 k2 l0 x1_1 x10_1 (rd t118 x46_1) (rd t118 x46_1) t127 t118 (t118.length : Int) x46_1) else (market_Clear.j2 k2 l0 x1_1 x10_1 x11_1 (rd t118 x46_1) t127 t118 (t118.length : Int) x46_1))) = some (r1, r2, r3) := H
            have A39 := Aside0.mk A390
            clear A390
            replace H := Option.bind_eq_some_iff.mp H
            obtain ⟨t130, A400, H⟩ := H
            replace H : (if t130 > 0 then (market_Clear.j2 k2 l0 x1_1 x10_1 (rd t118 x46_1) (rd t118 x46_1) t127 t118 (t118.length : Int) x46_1) else (market_Clear.j2 k2 l0 x1_1 x10_1 x11_1 (rd t118 x46_1) t127 t118 (t118.length : Int) x46_1)) = some (r1, r2, r3) := H
            have A40 := Aside0.mk A400
            clear A400
            have HC41 := Aside0.mk H
            clear H
            obtain ⟨Ao42, co42, eo42⟩ := Kd.R_slice HO_14.out
            subst eo42
            go_upto_if 71 with (first | ((with_reducible refine gate_callee (f := 102) rfl ?_); refine gl_ (some 68) Tryz.func102 #[.slice Ao42 x14_2.length co42, .int .i64 x1_1] ?_; (with_reducible refine (market_shared.calls k2 _ _ x14_2 x1_1 t127 _ ?side1 ?side2 A39.out).mono ?_); (case side1 => repeat (first | exact (Kd.R_reads' HO_14.out).2.2 | (with_reducible refine Kd.C_alloc ?_ _) | (with_reducible refine Kd.C_drewN ?_ _) | (with_reducible refine Kd.C_drew ?_))); (case side2 => exact (Kd.R_reads' HO_14.out).2.1); rintro e w43 ⟨v128, rfl, ho0, hb⟩; refine ⟨_, rfl, ?_⟩; have n0_ := Aside0.mk (Kd.R_elder' (rs_ HO_10.out) (Kd.R_base ho0) hb); have n1_ := Aside0.mk (Kd.R_elder' (rs_ HO_14.out) (Kd.R_base ho0) hb); have n2_ := Aside0.mk (Kd.R_elder' (rs_ HO_44.out) (Kd.R_base ho0) hb); have n3_ := Aside0.mk (Kd.R_lower (Kd.R_new' (Kd.R_new' (Kd.R_new' ho0 (Kd.R_lt (rs_ HO_10.out))) (Kd.R_lt (rs_ HO_14.out))) (Kd.R_lt (rs_ HO_44.out))) (below_size (ws_ HB.out))); have n4_ := Aside0.mk (below_step (ws_ HB.out) hb); clear HO_10; clear HO_14; clear HO_44; clear HB; have HO_10 := n0_; have HO_14 := n1_; have HO_44 := n2_; have HO129 := n3_; have HB := n4_; clear n0_ n1_ n2_ n3_ n4_; (try clear hb); (try clear hb2); (try clear hk); (try clear hi); (try clear ho0); obtain ⟨Ao44, co44, eo44⟩ := Kd.R_slice HO129.out; subst eo44) | ((with_reducible refine gate_callee (f := 104) rfl ?_); refine gl_ (some 70) Tryz.func104 #[.slice Ao44 t127.length co44] ?_; (with_reducible refine (market_sum.calls k2 _ _ t127 t130 _ ?side1 ?side2 A40.out).mono ?_); (case side1 => repeat (first | exact (Kd.R_reads' HO129.out).2.2 | (with_reducible refine Kd.C_alloc ?_ _) | (with_reducible refine Kd.C_drewN ?_ _) | (with_reducible refine Kd.C_drew ?_))); (case side2 => exact (Kd.R_reads' HO129.out).2.1); rintro e w' ⟨rfl, ⟨nd, rfl⟩⟩; refine ⟨_, rfl, ?_⟩))
            (try simp only [Act.put, List.setIfInBounds_toArray, List.set_cons_zero, List.set_cons_succ])
            go_cut [11] (fun v11 wc => ∃ (kq : Nat) (x11_40 : Int), v11 = .int .i64 x11_40 ∧ Aside0 (market_Clear.j2 kq l0 x1_1 x10_1 x11_40 (rd t118 x46_1) t127 t118 (t118.length : Int) x46_1 = some (r1, r2, r3)) ∧ Aside0 (kq ≤ k2) ∧ Aside0 (Kd.R (Kd.int .i64) 3 wc w.heap.size (fun k_ => some k_ ≠ ((.slice Ao44 t127.length co44) : Value).ownBlock ∧ some k_ ≠ ((.slice (some ad121) t118.length co25) : Value).ownBlock) v116 x10_1) ∧ Aside0 (Kd.Q (Kd.int .i64) 3 wc w.heap.size (fun k_ => some k_ ≠ (v116 : Value).ownBlock ∧ some k_ ≠ ((.slice (some ad121) t118.length co25) : Value).ownBlock) (.slice Ao44 t127.length co44) t127) ∧ Aside0 (Kd.R (Kd.int .i64) 3 wc w.heap.size (fun k_ => some k_ ≠ (v116 : Value).ownBlock ∧ some k_ ≠ ((.slice Ao44 t127.length co44) : Value).ownBlock) (.slice (some ad121) t118.length co25) t118) ∧ Aside0 (Below w.heap.size w wc))
            case first =>
             have H := HC41.out
             clear HC41
             by_cases c45 : t130 > 0
             ·rw [if_pos c45] at H
              have c45b0 : decide (0 < t130) = true := decide_eq_true c45
              clear c45
              (first | rw [c45b0] | (simp only [i64_w, i32_w]; rw [c45b0]) | skip)
              have H' := Aside0.mk H
              clear H
              go_wp2
              go_meet
              case rel => exact ⟨_, ((rd t118 x46_1)), (by first | rfl | (simp; done) | (simp [*]; done)), H', ⟨by have := HK1.out; have := HK2.out; first | omega | exact Nat.le_refl _⟩, ⟨by (with_reducible repeat (first | apply Kd.R_alloc | apply Kd.R_drewN | apply Kd.R_drew)); exact Kd.R_mono HO_10.out (fun _ hk => ⟨hk.2, hk.1.2⟩)⟩, ⟨Kd.Q_of_R (by (with_reducible repeat (first | apply Kd.R_alloc | apply Kd.R_drewN | apply Kd.R_drew)); exact Kd.R_mono HO129.out (fun _ hk => ⟨hk.1.1.2, hk.2⟩))⟩, ⟨by (with_reducible repeat (first | apply Kd.R_alloc | apply Kd.R_drewN | apply Kd.R_drew)); exact Kd.R_mono HO_44.out (fun _ hk => ⟨hk.1.1, hk.2⟩)⟩, ⟨by repeat (first | (with_reducible first | exact HB.out | apply below_alloc | apply pw_below_drewN | apply below_drew1) | exact HB.out)⟩⟩
             ·rw [if_neg c45] at H
              have c45b0 : decide (0 < t130) = false := decide_eq_false c45
              clear c45
              (first | rw [c45b0] | (simp only [i64_w, i32_w]; rw [c45b0]) | skip)
              have H' := Aside0.mk H
              clear H
              go_wp2
              go_meet
              case rel => exact ⟨_, (x11_1), (by first | rfl | (simp; done) | (simp [*]; done)), H', ⟨by have := HK1.out; have := HK2.out; first | omega | exact Nat.le_refl _⟩, ⟨by (with_reducible repeat (first | apply Kd.R_alloc | apply Kd.R_drewN | apply Kd.R_drew)); exact Kd.R_mono HO_10.out (fun _ hk => ⟨hk.2, hk.1.2⟩)⟩, ⟨Kd.Q_of_R (by (with_reducible repeat (first | apply Kd.R_alloc | apply Kd.R_drewN | apply Kd.R_drew)); exact Kd.R_mono HO129.out (fun _ hk => ⟨hk.1.1.2, hk.2⟩))⟩, ⟨by (with_reducible repeat (first | apply Kd.R_alloc | apply Kd.R_drewN | apply Kd.R_drew)); exact Kd.R_mono HO_44.out (fun _ hk => ⟨hk.1.1, hk.2⟩)⟩, ⟨by repeat (first | (with_reducible first | exact HB.out | apply below_alloc | apply pw_below_drewN | apply below_drew1) | exact HB.out)⟩⟩
            case rest =>
             clear HC41
             try clear c1
             try clear p1
             try clear q1
             try clear hx1
             try clear c2
             try clear p2
             try clear c3
             try clear c4
             try clear p6
             try clear c8
             try clear c9
             try clear c9b0
             try clear c9b1
             try clear c10
             try clear c11
             try clear c11b0
             try clear c11b1
             try clear c12
             try clear c12b0
             try clear c12b1
             try clear p12
             try clear q12
             try clear hx12
             try clear c26
             try clear c26b0
             try clear c27
             try clear c27b0
             try clear c28
             try clear c28b0
             try clear c29
             try clear c29b0
             try clear c30
             try clear c30b0
             try clear c31
             try clear c31b0
             try clear c32
             try clear c32b0
             try clear c32b1
             try clear c33
             try clear c40
             try clear c44
             try clear c45
             try clear c45b0
             try clear hcz35_0
             try clear hcz35_1
             try clear hcz35_2
             try clear hcz38_0
             try clear hcz38_1
             try clear hcz38_2
             try clear hfz35_0
             try clear hfz35_1
             try clear hfz35_2
             try clear hfz38_0
             try clear hfz38_1
             try clear hfz38_2
             try clear hx121_0
             try clear hx122_0
             try clear hx122_1
             try clear hx122_2
             try clear p1
             try clear p12
             try clear p121
             try clear p122
             try clear p2
             try clear q1
             try clear q12
             try clear q121
             try clear q122
             obtain ⟨kq, x11_40, rfl, HA, HJ40, HO_10, HO_17, HO_44, HB⟩ := hcut
             cases kq with
             | zero => exact absurd HA.out (by simp [market_Clear.j2])
             | succ kj40 =>
              have H := HA.out
              clear HA
              simp only [market_Clear.j2] at H
              replace H := Option.bind_eq_some_iff.mp H
              obtain ⟨t131, A460, H⟩ := H
              replace H : (market_Clear.l2 kj40 l0 (wrap64 (x1_1 - t131)) x10_1 x11_40 (rd t118 x46_1) t127 t118 (t118.length : Int) x46_1 l0 (l0.length : Int) 0) = some (r1, r2, r3) := H
              have A46 := Aside0.mk A460
              clear A460
              have H' := Aside0.mk H
              clear H
              go_wp2_with (first | ((with_reducible refine gate_callee (f := 104) rfl ?_); refine gl_ (some 75) Tryz.func104 #[.slice Ao44 t127.length co44] ?_; (with_reducible refine (market_sum.calls kj40 _ _ t127 t131 _ ?side1 ?side2 A46.out).mono ?_); (case side1 => repeat (first | exact (Kd.Q_reads' HO_17.out).2.2 | (with_reducible refine Kd.C_alloc ?_ _) | (with_reducible refine Kd.C_drewN ?_ _) | (with_reducible refine Kd.C_drew ?_))); (case side2 => exact (Kd.Q_reads' HO_17.out).2.1); rintro e w' ⟨rfl, ⟨nd, rfl⟩⟩; refine ⟨_, rfl, ?_⟩))
              go_loopg [17, 79] kj40 (fun kq v17 v79 w' => ∃ (x10_4 : List Int) (x17_4 : List Int) (x79_4 : Int), v79 = .int .i64 x79_4 ∧ Aside0 (market_Clear.l2 kq l0 (wrap64 (x1_1 - t131)) x10_4 x11_40 (rd t118 x46_1) x17_4 t118 (t118.length : Int) x46_1 l0 (l0.length : Int) x79_4 = some (r1, r2, r3)) ∧ Aside0 (kq ≤ kj40) ∧ Aside0 (Kd.R (Kd.int .i64) 3 w' w.heap.size (fun k_ => some k_ ≠ (v17 : Value).ownBlock ∧ some k_ ≠ ((.slice (some ad121) t118.length co25) : Value).ownBlock) v116 x10_4) ∧ Aside0 (Kd.Q (Kd.int .i64) 3 w' w.heap.size (fun k_ => some k_ ≠ (v116 : Value).ownBlock ∧ some k_ ≠ ((.slice (some ad121) t118.length co25) : Value).ownBlock) v17 x17_4) ∧ Aside0 (Kd.R (Kd.int .i64) 3 w' w.heap.size (fun k_ => some k_ ≠ (v116 : Value).ownBlock ∧ some k_ ≠ (v17 : Value).ownBlock) (.slice (some ad121) t118.length co25) t118) ∧ Aside0 (Below w.heap.size w w'))
              case atStart => exact ⟨(x10_1), (t127), (0), (by first | rfl | (simp; done) | (simp [*]; done)), H', ⟨Nat.le_refl _⟩, ⟨by (with_reducible repeat (first | apply Kd.R_alloc | apply Kd.R_drewN | apply Kd.R_drew)); exact HO_10.out⟩, ⟨by (with_reducible repeat (first | apply Kd.Q_alloc | apply Kd.Q_drewN | apply Kd.Q_drew)); exact HO_17.out⟩, ⟨by (with_reducible repeat (first | apply Kd.R_alloc | apply Kd.R_drewN | apply Kd.R_drew)); exact HO_44.out⟩, ⟨by repeat (first | (with_reducible first | exact HB.out | apply below_alloc | apply pw_below_drewN | apply below_drew1) | exact HB.out)⟩⟩
              case round =>
               clear H'
               try clear c1
               try clear p1
               try clear q1
               try clear hx1
               try clear c2
               try clear p2
               try clear c3
               try clear c4
               try clear p6
               try clear c8
               try clear c9
               try clear c9b0
               try clear c9b1
               try clear c10
               try clear c11
               try clear c11b0
               try clear c11b1
               try clear c12
               try clear c12b0
               try clear c12b1
               try clear p12
               try clear q12
               try clear hx12
               try clear c26
               try clear c26b0
               try clear c27
               try clear c27b0
               try clear c28
               try clear c28b0
               try clear c29
               try clear c29b0
               try clear c30
               try clear c30b0
               try clear c31
               try clear c31b0
               try clear c32
               try clear c32b0
               try clear c32b1
               try clear c33
               try clear c40
               try clear c44
               try clear c45
               try clear c45b0
               try clear hcz35_0
               try clear hcz35_1
               try clear hcz35_2
               try clear hcz38_0
               try clear hcz38_1
               try clear hcz38_2
               try clear hfz35_0
               try clear hfz35_1
               try clear hfz35_2
               try clear hfz38_0
               try clear hfz38_1
               try clear hfz38_2
               try clear hx121_0
               try clear hx122_0
               try clear hx122_1
               try clear hx122_2
               try clear p1
               try clear p12
               try clear p121
               try clear p122
               try clear p2
               try clear p6
               try clear q1
               try clear q12
               try clear q121
               try clear q122
               obtain ⟨x10_4, x17_4, x79_4, rfl, HA, HK4, HO_10, HO_17, HO_44, HB⟩ := hrel
               cases gk with
               | zero => exact absurd HA.out (by simp [market_Clear.l2])
               | succ k4 =>
                have H := HA.out
                clear HA
                simp only [market_Clear.l2] at H
                by_cases c47 : x79_4 < (l0.length : Int)
                ·rw [if_pos c47] at H
                 have c47b0 : decide (x79_4 < (l0.length : Int)) = true := decide_eq_true c47
                 clear c47
                 by_cases c48 : 0 ≤ x79_4
                 ·rw [if_pos c48] at H
                  have c48b0 : decide (0 ≤ x79_4) = true := decide_eq_true c48
                  clear c48
                  by_cases c49 : x79_4 < (l0.length : Int)
                  ·rw [if_pos c49] at H
                   have c49b0 : decide (x79_4 < (l0.length : Int)) = true := decide_eq_true c49
                   clear c49
                   by_cases c50 : ((rd_T150 l0 x79_4).f2) = (rd t118 x46_1)
                   ·rw [if_pos c50] at H
                    have c50b0 : (((rd_T150 l0 x79_4).f2) == (rd t118 x46_1)) = true := beq_iff_eq.mpr c50
                    have c50b1 : (((rd_T150 l0 x79_4).f2) != (rd t118 x46_1)) = false := bne_eq_false_iff_eq.mpr c50
                    clear c50
                    by_cases c51 : 0 < (x17_4.length : Int)
                    ·rw [if_pos c51] at H
                     have c51b0 : decide (0 < (x17_4.length : Int)) = true := decide_eq_true c51
                     have c51b1 : decide (0 < x17_4.length) = true := decide_eq_true (by omega)
                     clear c51
                     by_cases c52 : 1 ≤ (x17_4.length : Int)
                     ·rw [if_pos c52] at H
                      have c52b0 := eq_true c52
                      have c52b1 : decide (1 ≤ (x17_4.length : Int)) = true := decide_eq_true c52
                      clear c52
                      obtain ⟨y135, hy135⟩ : ∃ y_ : List Int, y_ = (x17_4.drop (1 : Int).toNat) := ⟨_, rfl⟩
                      replace H : (if x79_4 < (x10_4.length : Int) then (market_Clear.l2 k4 l0 (wrap64 (x1_1 - t131)) (x10_4.set (x79_4 : Int).toNat (rd x17_4 0)) x11_40 (rd t118 x46_1) y135 t118 (t118.length : Int) x46_1 l0 (l0.length : Int) (wrap64 (x79_4 + 1))) else (none)) = some (r1, r2, r3) := by first | (rw [hy135]; with_reducible exact H) | (have H2_ := (Option.bind_some _ _).symm.trans H; rw [hy135]; with_reducible exact H2_) | (have H2_ := (Option.bind_some _ _).symm.trans H; with_reducible exact H2_) | with_reducible exact H | (rw [hy135]; exact H) | exact H
                      have Ny135 := Aside0.mk hy135
                      clear hy135
                      by_cases c53 : x79_4 < (x10_4.length : Int)
                      ·rw [if_pos c53] at H
                       have c53b0 : decide (x79_4 < (x10_4.length : Int)) = true := decide_eq_true c53
                       clear c53
                       obtain ⟨y138, hy138⟩ : ∃ y_ : List Int, y_ = (x10_4.set (x79_4 : Int).toNat (rd x17_4 0)) := ⟨_, rfl⟩
                       replace H : (market_Clear.l2 k4 l0 (wrap64 (x1_1 - t131)) y138 x11_40 (rd t118 x46_1) y135 t118 (t118.length : Int) x46_1 l0 (l0.length : Int) (wrap64 (x79_4 + 1))) = some (r1, r2, r3) := by first | (rw [hy138]; with_reducible exact H) | (have H2_ := (Option.bind_some _ _).symm.trans H; rw [hy138]; with_reducible exact H2_) | (have H2_ := (Option.bind_some _ _).symm.trans H; with_reducible exact H2_) | with_reducible exact H | (rw [hy138]; exact H) | exact H
                       have Ny138 := Aside0.mk hy138
                       clear hy138
                       have H' := Aside0.mk H
                       clear H
                       have p132 : 0 ≤ (x79_4 : Int) := of_decide_eq_true (by first | (with_reducible assumption) | assumption)
                       have q132 : x79_4 < (l0.length : Int) := of_decide_eq_true (by first | (with_reducible assumption) | assumption)
                       obtain ⟨ad132, e132, hx132_0, hx132_1, hx132_2⟩ := at_T150 HR0.out x79_4 p132 q132
                       cases e132
                       replace hx132_0 := (HB.out.cell (World.block_lt_of_cell? w _ hx132_0)).trans hx132_0
                       replace hx132_1 := (HB.out.cell (World.block_lt_of_cell? w _ hx132_1)).trans hx132_1
                       replace hx132_2 := (HB.out.cell (World.block_lt_of_cell? w _ hx132_2)).trans hx132_2
                       replace p132 := eq_true p132
                       replace q132 := eq_true q132
                       try go_wp2_with (first | ((with_reducible refine gate_dst (N := 19) rfl ?_); refine box_event ?hg (N := 19) ?hd (cs := #[.string (⟨#[]⟩ : ByteArray), .int .i64 0, .int .i64 0]) (t := 150) ?hr ?_; (case hd => rfl); (case hg => rfl); (case hr => first | (go_simp; done) | (go_simp; rfl)); intro gb133 hg w55 hbox hb; have n0_ := Aside0.mk (Kd.R_below (rs_ HO_10.out) hb); have n1_ := Aside0.mk (Kd.Q_below (by (with_reducible repeat (first | apply Kd.Q_alloc | apply Kd.Q_drewN | apply Kd.Q_drew)); exact HO_17.out) hb); have n2_ := Aside0.mk (Kd.R_below (rs_ HO_44.out) hb); have n3_ := Aside0.mk (below_step (ws_ HB.out) hb); have n4_ := Aside0.mk (hbox); have n5_ := Aside0.mk ((by rw [hg]; exact (below_size (ws_ HB.out)) : w.heap.size ≤ gb133)); have n6_ := Aside0.mk ((by rw [hg]; exact (below_size (ws_ HB.out)) : w.heap.size ≤ gb133)); clear HO_10; clear HO_17; clear HO_44; clear HB; have HO_10 := n0_; have HO_17 := n1_; have HO_44 := n2_; have HB := n3_; have BK133 := n4_; have GW133 := n5_; have GE133 := n6_; clear n0_ n1_ n2_ n3_ n4_ n5_ n6_; clear hb hbox hg; have hcz56_0 : w55.cell? ⟨gb133, 0, none⟩ = some (.string (⟨#[]⟩ : ByteArray)) := (blk_cell BK133.out 0).trans rfl; have hcz56_1 : w55.cell? ⟨gb133, 1, none⟩ = some (.int .i64 0) := (blk_cell BK133.out 1).trans rfl; have hcz56_2 : w55.cell? ⟨gb133, 2, none⟩ = some (.int .i64 0) := (blk_cell BK133.out 2).trans rfl; have hfz56_0 := blk_frozen BK133.out 0; have hfz56_1 := blk_frozen BK133.out 1; have hfz56_2 := blk_frozen BK133.out 2))
                       have n0_ : Aside0 (Kd.R (Kd.int .i64) 3 (((w55.setCell ⟨gb133, 0, none⟩ (.string ((rd_T150 l0 x79_4).f0))).setCell ⟨gb133, 1, none⟩ (.int .i64 ((rd_T150 l0 x79_4).f1))).setCell ⟨gb133, 2, none⟩ (.int .i64 ((rd_T150 l0 x79_4).f2))) w.heap.size (fun k_ => some k_ ≠ (u17 : Value).ownBlock ∧ some k_ ≠ (.slice (some ad121) t118.length co25 : Value).ownBlock) v116 x10_4) := ⟨by (with_reducible repeat (first | apply Kd.R_alloc | apply Kd.R_drewN | apply Kd.R_drew)); exact Kd.R_mono (Kd.R_far (p := ⟨gb133, 2, none⟩) (Kd.R_far (p := ⟨gb133, 1, none⟩) (Kd.R_far (p := ⟨gb133, 0, none⟩) (Kd.R_types HO_10.out BK133.out (by decide)) (fun _ hk => hk.2) (.string ((rd_T150 l0 x79_4).f0))) (fun _ hk => hk.2) (.int .i64 ((rd_T150 l0 x79_4).f1))) (fun _ hk => hk.2) (.int .i64 ((rd_T150 l0 x79_4).f2))) (fun _ hk => ⟨hk.1.1, hk.1.2⟩)⟩
                       have n1_ : Aside0 (Kd.Q (Kd.int .i64) 3 (((w55.setCell ⟨gb133, 0, none⟩ (.string ((rd_T150 l0 x79_4).f0))).setCell ⟨gb133, 1, none⟩ (.int .i64 ((rd_T150 l0 x79_4).f1))).setCell ⟨gb133, 2, none⟩ (.int .i64 ((rd_T150 l0 x79_4).f2))) w.heap.size (fun k_ => some k_ ≠ (v116 : Value).ownBlock ∧ some k_ ≠ (.slice (some ad121) t118.length co25 : Value).ownBlock) u17 x17_4) := ⟨by (with_reducible repeat (first | apply Kd.Q_alloc | apply Kd.Q_drewN | apply Kd.Q_drew)); exact Kd.Q_mono (Kd.Q_far (p := ⟨gb133, 2, none⟩) (Kd.Q_far (p := ⟨gb133, 1, none⟩) (Kd.Q_far (p := ⟨gb133, 0, none⟩) (Kd.Q_types HO_17.out BK133.out (by decide)) (fun _ hk => hk.2) (.string ((rd_T150 l0 x79_4).f0))) (fun _ hk => hk.2) (.int .i64 ((rd_T150 l0 x79_4).f1))) (fun _ hk => hk.2) (.int .i64 ((rd_T150 l0 x79_4).f2))) (fun _ hk => ⟨hk.1.1, hk.1.2⟩)⟩
                       have n2_ : Aside0 (Kd.R (Kd.int .i64) 3 (((w55.setCell ⟨gb133, 0, none⟩ (.string ((rd_T150 l0 x79_4).f0))).setCell ⟨gb133, 1, none⟩ (.int .i64 ((rd_T150 l0 x79_4).f1))).setCell ⟨gb133, 2, none⟩ (.int .i64 ((rd_T150 l0 x79_4).f2))) w.heap.size (fun k_ => some k_ ≠ (v116 : Value).ownBlock ∧ some k_ ≠ (u17 : Value).ownBlock) (.slice (some ad121) t118.length co25) t118) := ⟨by (with_reducible repeat (first | apply Kd.R_alloc | apply Kd.R_drewN | apply Kd.R_drew)); exact Kd.R_mono (Kd.R_far (p := ⟨gb133, 2, none⟩) (Kd.R_far (p := ⟨gb133, 1, none⟩) (Kd.R_far (p := ⟨gb133, 0, none⟩) (Kd.R_types HO_44.out BK133.out (by decide)) (fun _ hk => hk.2) (.string ((rd_T150 l0 x79_4).f0))) (fun _ hk => hk.2) (.int .i64 ((rd_T150 l0 x79_4).f1))) (fun _ hk => hk.2) (.int .i64 ((rd_T150 l0 x79_4).f2))) (fun _ hk => ⟨hk.1.1, hk.1.2⟩)⟩
                       have n3_ : Aside0 ((((w55.setCell ⟨gb133, 0, none⟩ (.string ((rd_T150 l0 x79_4).f0))).setCell ⟨gb133, 1, none⟩ (.int .i64 ((rd_T150 l0 x79_4).f1))).setCell ⟨gb133, 2, none⟩ (.int .i64 ((rd_T150 l0 x79_4).f2))).heap[gb133]? = some (.cells #[.string ((rd_T150 l0 x79_4).f0), .int .i64 ((rd_T150 l0 x79_4).f1), .int .i64 ((rd_T150 l0 x79_4).f2)] 150 (0, 0))) := ⟨by (with_reducible repeat (first | refine blk_drewN ?_ _ | refine blk_drew ?_ | refine blk_alloc ?_ _)); refine blk_put (cs := #[.string ((rd_T150 l0 x79_4).f0), .int .i64 ((rd_T150 l0 x79_4).f1), .int .i64 0]) ?_ 2 _ rfl; (with_reducible repeat (first | refine blk_drewN ?_ _ | refine blk_drew ?_ | refine blk_alloc ?_ _)); refine blk_put (cs := #[.string ((rd_T150 l0 x79_4).f0), .int .i64 0, .int .i64 0]) ?_ 1 _ rfl; (with_reducible repeat (first | refine blk_drewN ?_ _ | refine blk_drew ?_ | refine blk_alloc ?_ _)); refine blk_put (cs := #[.string (⟨#[]⟩ : ByteArray), .int .i64 0, .int .i64 0]) ?_ 0 _ rfl; (with_reducible repeat (first | refine blk_drewN ?_ _ | refine blk_drew ?_ | refine blk_alloc ?_ _)); exact BK133.out⟩
                       have n4_ : Aside0 (Below w.heap.size w (((w55.setCell ⟨gb133, 0, none⟩ (.string ((rd_T150 l0 x79_4).f0))).setCell ⟨gb133, 1, none⟩ (.int .i64 ((rd_T150 l0 x79_4).f1))).setCell ⟨gb133, 2, none⟩ (.int .i64 ((rd_T150 l0 x79_4).f2)))) := ⟨by repeat (first | (with_reducible first | exact HB.out | apply below_alloc | apply pw_below_drewN | apply below_drew1 | refine below_set ?_ GE133.out) | exact HB.out)⟩
                       (try clear HO_10)
                       (try clear HO_17)
                       (try clear HO_44)
                       (try clear BK133)
                       (try clear HB)
                       generalize (((w55.setCell ⟨gb133, 0, none⟩ (.string ((rd_T150 l0 x79_4).f0))).setCell ⟨gb133, 1, none⟩ (.int .i64 ((rd_T150 l0 x79_4).f1))).setCell ⟨gb133, 2, none⟩ (.int .i64 ((rd_T150 l0 x79_4).f2))) = w57 at n0_ n1_ n2_ n3_ n4_ ⊢
                       have HO_10 := n0_
                       have HO_17 := n1_
                       have HO_44 := n2_
                       have BK133 := n3_
                       have HB := n4_
                       clear n0_ n1_ n2_ n3_ n4_
                       have n0_ := Aside0.mk (Kd.R_drew HO_10.out)
                       have n1_ := Aside0.mk (Kd.Q_drew HO_17.out)
                       have n2_ := Aside0.mk (Kd.R_drew HO_44.out)
                       have n3_ := Aside0.mk (blk_drew BK133.out)
                       have n4_ := Aside0.mk (below_drew1 HB.out)
                       clear HO_10
                       clear HO_17
                       clear HO_44
                       clear BK133
                       clear HB
                       have HO_10 := n0_
                       have HO_17 := n1_
                       have HO_44 := n2_
                       have BK133 := n3_
                       have HB := n4_
                       clear n0_ n1_ n2_ n3_ n4_
                       obtain ⟨Ao59, co59, eo59, _⟩ := Kd.Q_slice HO_17.out
                       (first | subst eo59 | (injection eo59 with f1_ f2_ f3_; have f4_ := f1_.symm; have f5_ := f3_.symm; clear f1_ f2_ f3_; subst f4_; subst f5_))
                       have p134 : 0 ≤ (0 : Int) := (by omega)
                       have q134 : 0 < (x17_4.length : Int) := of_decide_eq_true (by first | (with_reducible assumption) | assumption)
                       obtain ⟨ad134, e134, hx134_0⟩ := Kd.at_int (Kd.Q_reads' HO_17.out).2.2 0 p134 q134
                       cases e134
                       have qi134 : (0 < x17_4.length) = True := eq_true (by omega)
                       (try rw [show ((0 : Int)).toNat = 0 from rfl] at hx134_0)
                       (try rw [Addr.add_zero'] at hx134_0)
                       replace p134 := eq_true p134
                       replace q134 := eq_true q134
                       have q60 : (1 : Int) ≤ ((x17_4.length : Int) : Int) := of_decide_eq_true (by first | (with_reducible assumption) | assumption)
                       obtain ⟨i060, hi060, _, hsz60, _⟩ := info_parts info3
                       have hcut60 := cut_from (P := Tryz.prog) 52 3 .i64 Tryz.underlying52 hi060 1 hsz60 (some ad134) x17_4.length co59 1 (by omega) q60
                       have hr60 := Kd.Q_drop (k := (1 : Int).toNat) HO_17.out (by omega)
                       obtain ⟨A60, hA60⟩ : ∃ A1, A1 = (if co59 = (1 : Int).toNat then (some ad134) else ((some ad134) : Option Addr).map (·.add ((1 : Int).toNat * 1))) := ⟨_, rfl⟩
                       obtain ⟨c60, hc60⟩ : ∃ c1, c1 = co59 - (1 : Int).toNat := ⟨_, rfl⟩
                       have hy60 : y135.length = x17_4.length - (1 : Int).toNat := (by rw [Ny135.out, List.length_drop])
                       rw [← Ny135.out] at hr60
                       rw [← hy60, ← hA60, ← hc60] at hcut60
                       replace hr60 : Kd.Q (Kd.int .i64) 3 (w57.drew) w.heap.size (fun k_ => some k_ ≠ (v116 : Value).ownBlock ∧ some k_ ≠ (.slice (some ad121) t118.length co25 : Value).ownBlock) (.slice A60 y135.length c60) y135 := (by rw [hA60, hc60, hy60]; exact hr60)
                       have HE60 : Aside0 ((Value.slice A60 y135.length c60).ownBlock = (.slice (some ad134) x17_4.length co59 : Value).ownBlock) := ⟨by rw [hA60]; split <;> (cases ((some ad134) : Option Addr) <;> rfl)⟩
                       clear hy60 hi060 hsz60 HO_17 hA60 hc60
                       have HO137 := Aside0.mk hr60
                       clear hr60
                       replace q60 := eq_true q60
                       have n_ := Aside0.mk (Kd.R_mono (ok' := fun k_ => (some k_ ≠ (.slice A60 y135.length c60 : Value).ownBlock ∧ some k_ ≠ (.slice (some ad121) t118.length co25 : Value).ownBlock)) HO_10.out (fun k_ hk => ⟨(by rw [HE60.out]; exact hk.1), hk.2⟩))
                       clear HO_10
                       have HO_10 := n_
                       clear n_
                       have n_ := Aside0.mk (Kd.R_mono (ok' := fun k_ => (some k_ ≠ (v116 : Value).ownBlock ∧ some k_ ≠ (.slice A60 y135.length c60 : Value).ownBlock)) HO_44.out (fun k_ hk => ⟨hk.1, (by rw [HE60.out]; exact hk.2)⟩))
                       clear HO_44
                       have HO_44 := n_
                       clear n_
                       have p54 : 0 ≤ (x79_4 : Int) := of_decide_eq_true (by first | (with_reducible assumption) | assumption)
                       have q54 : (x79_4 : Int) < ((x10_4.length : Int) : Int) := of_decide_eq_true (by first | (with_reducible assumption) | assumption)
                       obtain ⟨go54, co54, eo54, gb54, gl54, cl54, HG54⟩ := Kd.R_form HO_10.out (by omega)
                       (first | cases eo54 | (injection eo54 with ea_ en_ ec_; (first | subst ea_ | (injection ea_ with ea_; subst ea_)); subst ec_; clear en_))
                       have GB54 := Aside0.mk gb54
                       have GG54 := Aside0.mk HG54
                       clear gb54 gl54 HG54
                       obtain ⟨hx54_0, hf54_0⟩ := Kd.R_celln 0 HO_10.out (x79_4 : Int) p54 q54
                       replace p54 := eq_true p54
                       replace q54 := eq_true q54
                       have HP61 := Kd.R_putn HO_10.out (x79_4 : Int) (rd x17_4 0)
                       rw [← Ny138.out] at HP61
                       have HQ61 := Aside0.mk HP61
                       clear HP61
                       refine start_ (n := 10) (S := fun w' => w'.cell? ad134 = some (.int .i64 (rd x17_4 0))) (ds := [8]) #[false, false, false, false, false, false, false, false, false, false] (by kernel_rfl) rfl rfl (hx134_0) (fun hHeld => ?_); refine with_tabW market_Clear.tab27 market_Clear.bits27 (fun HT_ HW_ => ?_)
                       generalize w57.drew = w58 at HO_10 HO_17 HO_44 BK133 HB GG54 HO137 HQ61 hf54_0 hx134_0 hx54_0 hHeld ⊢
                       refine pv_ 0 88 #[true, false, false, false, false, false, false, false, false, false] (any_of HT_.out (by kernel_rfl)) ?_
                       refine pv_ 1 89 #[true, true, false, false, false, false, false, false, false, false] (any_of HT_.out (by kernel_rfl)) ?_
                       refine pv_ 2 90 #[true, true, true, false, false, false, false, false, false, false] (any_of HT_.out (by kernel_rfl)) ?_
                       refine pv_ 3 91 #[true, true, true, true, false, false, false, false, false, false] (any_of HT_.out (by kernel_rfl)) ?_
                       refine pv_ 5 93 #[true, true, true, true, false, true, false, false, false, false] (any_of HT_.out (by kernel_rfl)) ?_
                       refine pv_ 6 94 #[true, true, true, true, false, true, true, false, false, false] (any_of HT_.out (by kernel_rfl)) ?_
                       refine take_ (i := 4) (N := some 92) (v := ?_) (a' := ?_) #[true, true, true, true, true, true, true, false, false, false] rfl rfl (take_ofW HT_.out HW_.out (by kernel_rfl)) (fun _ _ _ h => h) (Or.inl ⟨by rfl, ?_⟩) hHeld ?_ ?_
                       rotate_left
                       ·intro w' s0
                        go_simp
                        with_reducible rfl
                       rotate_left
                       ·simp only [Act.put, List.setIfInBounds_toArray, List.set_cons_zero, List.set_cons_succ, i64_w, i32_w]
                        rfl
                       refine pv_ 7 95 #[true, true, true, true, true, true, true, true, false, false] (any_of HT_.out (by kernel_rfl)) ?_
                       refine last_ (i := 8) (N := none) #[true, true, true, true, true, true, true, true, true, false] rfl rfl (one_of HT_.out (by kernel_rfl)) (by decide) (fun K hK => ?_)
                       refine skip_ (w1 := ?_) (by rfl) rfl ?_ ?_
                       rotate_left
                       ·go_simp
                        rfl
                       refine hK.out _ _ ?_
                       clear hK K
                       refine pv_ 9 17 #[true, true, true, true, true, true, true, true, true, true] (any_of HT_.out (by kernel_rfl)) ?_
                       refine done_ (done_of HT_.out (by kernel_rfl)) ?_
                       try go_wp2
                       go_roundg k4
                       case measure => have := HK1.out; have := HK2.out; have := HJ40.out; have := HK4.out; omega
                       case rel => exact ⟨(y138), (y135), (wrap64 (x79_4 + 1)), (by first | rfl | (simp; done) | (simp [*]; done)), H', ⟨by have := HK1.out; have := HK2.out; have := HJ40.out; have := HK4.out; omega⟩, ⟨by (with_reducible repeat (first | apply Kd.R_alloc | apply Kd.R_drewN | apply Kd.R_drew)); exact HQ61.out⟩, ⟨by (with_reducible repeat (first | apply Kd.Q_alloc | apply Kd.Q_drewN | apply Kd.Q_drew)); exact Kd.Q_mono (Kd.Q_far (p := ⟨go54, (x79_4 : Int).toNat, none⟩) (Kd.Q_mono HO137.out (fun k_ hk => (⟨hk, fun e_ => hk.1 (by rw [e_]; rfl)⟩ : _ ∧ k_ ≠ go54))) (fun _ hk => hk.2) (.int .i64 (rd x17_4 0))) (fun _ hk => ⟨hk.1.1, hk.1.2⟩)⟩, ⟨by (with_reducible repeat (first | apply Kd.R_alloc | apply Kd.R_drewN | apply Kd.R_drew)); exact Kd.R_mono (Kd.R_far (p := ⟨go54, (x79_4 : Int).toNat, none⟩) (Kd.R_mono HO_44.out (fun k_ hk => (⟨hk, fun e_ => hk.1 (by rw [e_]; rfl)⟩ : _ ∧ k_ ≠ go54))) (fun _ hk => hk.2) (.int .i64 (rd x17_4 0))) (fun _ hk => ⟨hk.1.1, hk.1.2⟩)⟩, ⟨by repeat (first | (with_reducible first | exact HB.out | apply below_alloc | apply pw_below_drewN | apply below_drew1 | refine below_set ?_ GB54.out | refine below_set ?_ GE133.out) | exact HB.out)⟩⟩
                      ·rw [if_neg c53] at H
                       exact absurd H (by simp)
                     ·rw [if_neg c52] at H
                      exact absurd H (by simp)
                    ·rw [if_neg c51] at H
                     exact absurd H (by simp)
                   ·rw [if_neg c50] at H
                    have c50b0 : (((rd_T150 l0 x79_4).f2) == (rd t118 x46_1)) = false := beq_eq_false_iff_ne.mpr c50
                    have c50b1 : (((rd_T150 l0 x79_4).f2) != (rd t118 x46_1)) = true := bne_iff_ne.mpr c50
                    have H' := Aside0.mk H
                    clear H
                    have p132 : 0 ≤ (x79_4 : Int) := of_decide_eq_true (by first | (with_reducible assumption) | assumption)
                    have q132 : x79_4 < (l0.length : Int) := of_decide_eq_true (by first | (with_reducible assumption) | assumption)
                    obtain ⟨ad132, e132, hx132_0, hx132_1, hx132_2⟩ := at_T150 HR0.out x79_4 p132 q132
                    cases e132
                    replace hx132_0 := (HB.out.cell (World.block_lt_of_cell? w _ hx132_0)).trans hx132_0
                    replace hx132_1 := (HB.out.cell (World.block_lt_of_cell? w _ hx132_1)).trans hx132_1
                    replace hx132_2 := (HB.out.cell (World.block_lt_of_cell? w _ hx132_2)).trans hx132_2
                    replace p132 := eq_true p132
                    replace q132 := eq_true q132
                    go_wp2_with (first | ((with_reducible refine gate_dst (N := 19) rfl ?_); refine box_event ?hg (N := 19) ?hd (cs := #[.string (⟨#[]⟩ : ByteArray), .int .i64 0, .int .i64 0]) (t := 150) ?hr ?_; (case hd => rfl); (case hg => rfl); (case hr => first | (go_simp; done) | (go_simp; rfl)); intro gb133 hg w62 hbox hb; have n0_ := Aside0.mk (Kd.R_below (rs_ HO_10.out) hb); have n1_ := Aside0.mk (Kd.Q_below (by (with_reducible repeat (first | apply Kd.Q_alloc | apply Kd.Q_drewN | apply Kd.Q_drew)); exact HO_17.out) hb); have n2_ := Aside0.mk (Kd.R_below (rs_ HO_44.out) hb); have n3_ := Aside0.mk (below_step (ws_ HB.out) hb); have n4_ := Aside0.mk (hbox); have n5_ := Aside0.mk ((by rw [hg]; exact (below_size (ws_ HB.out)) : w.heap.size ≤ gb133)); have n6_ := Aside0.mk ((by rw [hg]; exact (below_size (ws_ HB.out)) : w.heap.size ≤ gb133)); clear HO_10; clear HO_17; clear HO_44; clear HB; have HO_10 := n0_; have HO_17 := n1_; have HO_44 := n2_; have HB := n3_; have BK133 := n4_; have GW133 := n5_; have GE133 := n6_; clear n0_ n1_ n2_ n3_ n4_ n5_ n6_; clear hb hbox hg; have hcz63_0 : w62.cell? ⟨gb133, 0, none⟩ = some (.string (⟨#[]⟩ : ByteArray)) := (blk_cell BK133.out 0).trans rfl; have hcz63_1 : w62.cell? ⟨gb133, 1, none⟩ = some (.int .i64 0) := (blk_cell BK133.out 1).trans rfl; have hcz63_2 : w62.cell? ⟨gb133, 2, none⟩ = some (.int .i64 0) := (blk_cell BK133.out 2).trans rfl; have hfz63_0 := blk_frozen BK133.out 0; have hfz63_1 := blk_frozen BK133.out 1; have hfz63_2 := blk_frozen BK133.out 2))
                    go_roundg k4
                    case measure => have := HK1.out; have := HK2.out; have := HJ40.out; have := HK4.out; omega
                    case rel => exact ⟨(x10_4), (x17_4), (wrap64 (x79_4 + 1)), (by first | rfl | (simp; done) | (simp [*]; done)), H', ⟨by have := HK1.out; have := HK2.out; have := HJ40.out; have := HK4.out; omega⟩, ⟨by (with_reducible repeat (first | apply Kd.R_alloc | apply Kd.R_drewN | apply Kd.R_drew)); exact Kd.R_mono (Kd.R_far (p := ⟨gb133, 2, none⟩) (Kd.R_far (p := ⟨gb133, 1, none⟩) (Kd.R_far (p := ⟨gb133, 0, none⟩) (Kd.R_types HO_10.out BK133.out (by decide)) (fun _ hk => hk.2) (.string ((rd_T150 l0 x79_4).f0))) (fun _ hk => hk.2) (.int .i64 ((rd_T150 l0 x79_4).f1))) (fun _ hk => hk.2) (.int .i64 ((rd_T150 l0 x79_4).f2))) (fun _ hk => ⟨hk.1.1, hk.1.2⟩)⟩, ⟨by (with_reducible repeat (first | apply Kd.Q_alloc | apply Kd.Q_drewN | apply Kd.Q_drew)); exact Kd.Q_mono (Kd.Q_far (p := ⟨gb133, 2, none⟩) (Kd.Q_far (p := ⟨gb133, 1, none⟩) (Kd.Q_far (p := ⟨gb133, 0, none⟩) (Kd.Q_types HO_17.out BK133.out (by decide)) (fun _ hk => hk.2) (.string ((rd_T150 l0 x79_4).f0))) (fun _ hk => hk.2) (.int .i64 ((rd_T150 l0 x79_4).f1))) (fun _ hk => hk.2) (.int .i64 ((rd_T150 l0 x79_4).f2))) (fun _ hk => ⟨hk.1.1, hk.1.2⟩)⟩, ⟨by (with_reducible repeat (first | apply Kd.R_alloc | apply Kd.R_drewN | apply Kd.R_drew)); exact Kd.R_mono (Kd.R_far (p := ⟨gb133, 2, none⟩) (Kd.R_far (p := ⟨gb133, 1, none⟩) (Kd.R_far (p := ⟨gb133, 0, none⟩) (Kd.R_types HO_44.out BK133.out (by decide)) (fun _ hk => hk.2) (.string ((rd_T150 l0 x79_4).f0))) (fun _ hk => hk.2) (.int .i64 ((rd_T150 l0 x79_4).f1))) (fun _ hk => hk.2) (.int .i64 ((rd_T150 l0 x79_4).f2))) (fun _ hk => ⟨hk.1.1, hk.1.2⟩)⟩, ⟨by repeat (first | (with_reducible first | exact HB.out | apply below_alloc | apply pw_below_drewN | apply below_drew1 | refine below_set ?_ GE133.out) | exact HB.out)⟩⟩
                  ·rw [if_neg c49] at H
                   exact absurd H (by simp)
                 ·rw [if_neg c48] at H
                  exact absurd H (by simp)
                ·rw [if_neg c47] at H
                 have c47b0 : decide (x79_4 < (l0.length : Int)) = false := decide_eq_false c47
                 clear c47
                 have H' := Aside0.mk H
                 clear H
                 go_wp2
                 go_roundg k4
                 case measure => have := HK1.out; have := HK2.out; have := HJ40.out; have := HK4.out; omega
                 case rel => exact ⟨((wrap64 (x1_1 - t131))), (x10_4), (x11_40), (wrap64 (x46_1 + 1)), (by first | rfl | (simp; done) | (simp [*]; done)), (by first | rfl | (simp; done) | (simp [*]; done)), (by first | rfl | (simp; done) | (simp [*]; done)), H', ⟨by have := HK1.out; have := HK2.out; have := HJ40.out; have := HK4.out; omega⟩, ⟨by (with_reducible repeat (first | apply Kd.R_alloc | apply Kd.R_drewN | apply Kd.R_drew)); exact Kd.R_mono HO_10.out (fun _ hk => hk.2)⟩, ⟨by (with_reducible repeat (first | apply Kd.R_alloc | apply Kd.R_drewN | apply Kd.R_drew)); exact Kd.R_mono HO_44.out (fun _ hk => hk.1)⟩, ⟨by repeat (first | (with_reducible first | exact HB.out | apply below_alloc | apply pw_below_drewN | apply below_drew1) | exact HB.out)⟩⟩
        ·rw [if_neg c28] at H
         exact absurd H (by simp)
       ·rw [if_neg c27] at H
        exact absurd H (by simp)
      ·rw [if_neg c26] at H
       have c26b0 : decide (x46_1 < (t118.length : Int)) = false := decide_eq_false c26
       clear c26
       simp only [Option.some.injEq, Prod.mk.injEq] at H
       obtain ⟨rfl, rfl, rfl⟩ := H
       go_wp2
       go_ret3
       exact ⟨_, by first | rfl | (simp [errW_none, errW_some] <;> rfl) | (simp [*, errW_none, errW_some] <;> rfl), by (with_reducible repeat (first | apply Kd.R_alloc | apply Kd.R_drewN | apply Kd.R_drew)); exact Kd.R_mono HO_10.out (fun _ hk => trivial), by repeat (first | (with_reducible first | exact HB.out | apply below_alloc | apply pw_below_drewN | apply below_drew1) | exact HB.out)⟩
   ·rw [if_neg c12] at H
    exact absurd H (by simp)
  ·rw [if_neg c11] at H
   exact absurd H (by simp)
 ·rw [if_neg c9] at H
  have c9b0 : (t111 == 0) = false := beq_eq_false_iff_ne.mpr c9
  have c9b1 : (t111 != 0) = true := bne_iff_ne.mpr c9
  simp only [Option.some.injEq, Prod.mk.injEq] at H
  obtain ⟨rfl, rfl, rfl⟩ := H
  go_enter Tryz.func40, Tryz.ntmps40
  go_wp2_with (first | ((with_reducible refine gate_callee (f := 105) rfl ?_); refine gl_ (some 21) Tryz.func105 #[.slice A0 l0.length c0, .func (.func 106) #[] #[]] ?_; (with_reducible refine (market_Bid_int__market_Clear_1.calls k _ _ l0 () t101 _ ?side1 ?side2 A3.out).mono ?_); (case side1 => exact cs_ HR0.out); (case side2 => exact HC0.out); rintro e w64 ⟨v102, rfl, ho0, hb⟩; refine ⟨_, rfl, ?_⟩; have n0_ := Aside0.mk (Kd.R_lower ho0 (below_size (ws_ HB.out))); have n1_ := Aside0.mk (below_step (ws_ HB.out) hb); clear HB; have HO103 := n0_; have HB := n1_; clear n0_ n1_; (try clear hb); (try clear hb2); (try clear hk); (try clear hi); (try clear ho0); obtain ⟨Ao65, co65, eo65⟩ := Kd.R_slice HO103.out; subst eo65) | ((with_reducible refine gate_callee (f := 104) rfl ?_); refine gl_ (some 22) Tryz.func104 #[.slice Ao65 t101.length co65] ?_; (with_reducible refine (market_sum.calls k _ _ t101 t104 _ ?side1 ?side2 A4.out).mono ?_); (case side1 => repeat (first | exact (Kd.R_reads' HO103.out).2.2 | (with_reducible refine Kd.C_alloc ?_ _) | (with_reducible refine Kd.C_drewN ?_ _) | (with_reducible refine Kd.C_drew ?_))); (case side2 => exact (Kd.R_reads' HO103.out).2.1); rintro e w' ⟨rfl, ⟨nd, rfl⟩⟩; refine ⟨_, rfl, ?_⟩) | ((with_reducible refine gate_callee (f := 44) rfl ?_); refine gl_ (some 24) Tryz.func44 #[.slice A0 l0.length c0] ?_; (with_reducible refine (market_CheckBids.calls k _ _ l0 t105 _ ?side1 ?side2 A5.out).mono ?_); (case side1 => repeat (first | exact (Kd.C_below HR0.out (ws_ HB.out)) | (with_reducible refine Kd.C_alloc ?_ _) | (with_reducible refine Kd.C_drewN ?_ _) | (with_reducible refine Kd.C_drew ?_))); (case side2 => exact HC0.out); rintro e w66 ⟨rfl, hb⟩; refine ⟨_, rfl, ?_⟩; have n0_ := Aside0.mk (Kd.R_below (rs_ HO103.out) hb); have n1_ := Aside0.mk (below_step (ws_ HB.out) hb); clear HO103; clear HB; have HO103 := n0_; have HB := n1_; clear n0_ n1_; (try clear hb); (try clear hb2); (try clear hk); (try clear hi)) | ((with_reducible refine gate_callee (f := 101) rfl ?_); refine gl_ (some 26) Tryz.func101 #[.int .i64 a1] ?_; (with_reducible refine (market_checkTotal.calls a1 t106 _ A6.out).mono ?_); rintro e w' ⟨rfl, ⟨nd, rfl⟩⟩; refine ⟨_, rfl, ?_⟩) | ((with_reducible refine gate_callee (f := 90) rfl ?_); refine gl_ (some 30) Tryz.func90 #[.bool (decide (a1 > t104)), .int .i64 24] ?_; (with_reducible refine (market_when.calls (decide (a1 > t104)) 24 t107 _ A7.out).mono ?_); rintro e w' ⟨rfl, ⟨nd, rfl⟩⟩; refine ⟨_, rfl, ?_⟩) | ((with_reducible refine gate_dst (N := 31) rfl ?_); refine Kd.R_lit (Kd.int .i64) _ 28 ?hg (N := 31) ?hd (xs := ([t105, t106, t107] : List Int)) (inner := [.int .i64 t105, .int .i64 t106, .int .i64 t107]) (ok := fun _ => True) (okp := fun _ => True) ?hr ?hp (fun _ hk => hk) trivial (Below.refl _ _) (Nat.le_refl _) (by simp) ?_; (case hd => rfl); (case hg => rfl); (case hr => first | (go_simp; done) | (go_simp; rfl)); (case hp => exact (Reps.one (show Kd.M (Kd.int .i64) _ _ _ t105 [.int .i64 t105] from rfl) (Reps.one (show Kd.M (Kd.int .i64) _ _ _ t106 [.int .i64 t106] from rfl) (Reps.one (show Kd.M (Kd.int .i64) _ _ _ t107 [.int .i64 t107] from rfl) (Reps.none _ _))))); intro v109 w67 ho68 hb hg_ hnew_; clear hg_ hnew_; (first | rw [← Ny108.out] at ho68 | (simp only [Int.reduceToNat] at ho68; rw [← Ny108.out] at ho68)); have n0_ := Aside0.mk (Kd.R_below (rs_ HO103.out) hb); have n1_ := Aside0.mk (Kd.R_lower ho68 (below_size (ws_ HB.out))); have n2_ := Aside0.mk (below_step (ws_ HB.out) hb); clear HO103; clear HB; have HO103 := n0_; have HO110 := n1_; have HB := n2_; clear n0_ n1_ n2_; clear hb ho68; obtain ⟨Ao69, co69, eo69⟩ := Kd.R_slice HO110.out; subst eo69) | ((with_reducible refine gate_callee (f := 85) rfl ?_); refine gl_ (some 32) Tryz.func85 #[.slice Ao69 y108.length co69] ?_; (with_reducible refine (market_first.calls k _ _ y108 t111 _ ?side1 ?side2 A8.out).mono ?_); (case side1 => repeat (first | exact (Kd.R_reads' HO110.out).2.2 | (with_reducible refine Kd.C_alloc ?_ _) | (with_reducible refine Kd.C_drewN ?_ _) | (with_reducible refine Kd.C_drew ?_))); (case side2 => exact (Kd.R_reads' HO110.out).2.1); rintro e w' ⟨rfl, ⟨nd, rfl⟩⟩; refine ⟨_, rfl, ?_⟩))
  go_ret3
  exact ⟨_, by first | rfl | (simp [errW_none, errW_some] <;> rfl) | (simp [*, errW_none, errW_some] <;> rfl), by first | exact Kd.R_nil _ _ _ _ _ | exact Kd.N_nil _ _ _ _ _ | exact Kd.V_nil _ _ _ _ _ | exact Kd.Q_nil _ _ _ _ _ | exact Kd.S_nil _ _ _ _ _, by repeat (first | (with_reducible first | exact HB.out | apply below_alloc | apply pw_below_drewN | apply below_drew1) | exact HB.out)⟩
/-! ### market_Quarter_row: function 120 -/
def market_Quarter_row.f (a0_0 : Int) (a0_1 : Int) (a0_2 : Int) (a0_3 : Int) (a0_4 : Int) (a1_0 : Int) (a1_1 : Int) (a1_2 : Int) : Option (Int × Int) := (market_Prices_settled.f a1_0 a1_1 a1_2 a0_0 (wrap64 ((wrap64 (a0_4 + a0_2)) - a0_0))).bind fun t104 => (some (wrap64 ((wrap64 (a0_4 + a0_2)) - a0_0), t104))
set_option maxHeartbeats 8000000 in
set_option maxRecDepth 100000 in
theorem market_Quarter_row.calls (a0_0 : Int) (a0_1 : Int) (a0_2 : Int) (a0_3 : Int) (a0_4 : Int) (a1_0 : Int) (a1_1 : Int) (a1_2 : Int) (r1 : Int) (r2 : Int) (w : World) (h : market_Quarter_row.f a0_0 a0_1 a0_2 a0_3 a0_4 a1_0 a1_1 a1_2 = some (r1, r2)) :
  Calls Tryz.prog 120 #[.agg #[.int .i64 a0_0, .int .i64 a0_1, .int .i64 a0_2, .int .i64 a0_3, .int .i64 a0_4], .agg #[.int .i64 a1_0, .int .i64 a1_1, .int .i64 a1_2]] w fun e w' => e = .returned (.agg #[.int .i64 r1, .int .i64 r2]) ∧ Below w.heap.size w w' := by
 have hu86 := Tryz.underlying86
 have hu31 := Tryz.underlying31
 have hu110 := Tryz.underlying110
 have HB := Aside0.mk (Below.refl w.heap.size w)
 have H : ((market_Prices_settled.f a1_0 a1_1 a1_2 a0_0 (wrap64 ((wrap64 (a0_4 + a0_2)) - a0_0))).bind fun t104 => (some (wrap64 ((wrap64 (a0_4 + a0_2)) - a0_0), t104))) = some (r1, r2) := h
 clear h
 replace H := Option.bind_eq_some_iff.mp H
 obtain ⟨t104, A30, H⟩ := H
 replace H : (some (wrap64 ((wrap64 (a0_4 + a0_2)) - a0_0), t104)) = some (r1, r2) := H
 have A3 := Aside0.mk A30
 clear A30
 simp only [Option.some.injEq, Prod.mk.injEq] at H
 obtain ⟨rfl, rfl⟩ := H
 go_enter Tryz.func120, Tryz.ntmps120
 go_wp2_with (first | ((with_reducible refine gate_dst (N := 2) rfl ?_); refine box_event ?hg (N := 2) ?hd (cs := #[.int .i64 a0_0, .int .i64 a0_1, .int .i64 a0_2, .int .i64 a0_3, .int .i64 a0_4]) (t := 86) ?hr ?_; (case hd => rfl); (case hg => rfl); (case hr => first | (go_simp; done) | (go_simp; rfl)); intro gb101 hg w4 hbox hb; have n0_ := Aside0.mk (below_step (ws_ HB.out) hb); have n1_ := Aside0.mk (hbox); have n2_ := Aside0.mk ((by rw [hg]; exact (below_size (ws_ HB.out)) : w.heap.size ≤ gb101)); have n3_ := Aside0.mk ((by rw [hg]; exact (below_size (ws_ HB.out)) : w.heap.size ≤ gb101)); clear HB; have HB := n0_; have BK101 := n1_; have GW101 := n2_; have GE101 := n3_; clear n0_ n1_ n2_ n3_; clear hb hbox hg) | ((with_reducible refine gate_dst (N := 3) rfl ?_); refine box_event ?hg (N := 3) ?hd (cs := #[.int .i64 a1_0, .int .i64 a1_1, .int .i64 a1_2]) (t := 31) ?hr ?_; (case hd => rfl); (case hg => rfl); (case hr => first | (go_simp; done) | (go_simp; rfl)); intro gb102 hg w5 hbox hb; have n0_ := Aside0.mk (blk_below (g := gb101) (o := .cells #[.int .i64 a0_0, .int .i64 a0_1, .int .i64 a0_2, .int .i64 a0_3, .int .i64 a0_4] 86 (0, 0)) (bs_ BK101.out) hb); have n1_ := Aside0.mk (below_step (wg_ HB.out GE101.out) hb); have n2_ := Aside0.mk (hbox); have n3_ := Aside0.mk ((by rw [hg]; exact (below_size (wg_ HB.out GE101.out)) : w.heap.size ≤ gb102)); have n4_ := Aside0.mk ((by rw [hg]; exact (below_size (wg_ HB.out GE101.out)) : w.heap.size ≤ gb102)); have n5_ := Aside0.mk ((by rw [hg]; exact Nat.ne_of_lt (blk_lt (g := gb101) (o := .cells #[.int .i64 a0_0, .int .i64 a0_1, .int .i64 a0_2, .int .i64 a0_3, .int .i64 a0_4] 86 (0, 0)) (bs_ BK101.out)) : gb101 ≠ gb102)); have n6_ := Aside0.mk ((by rw [hg]; exact Nat.ne_of_gt (blk_lt (g := gb101) (o := .cells #[.int .i64 a0_0, .int .i64 a0_1, .int .i64 a0_2, .int .i64 a0_3, .int .i64 a0_4] 86 (0, 0)) (bs_ BK101.out)) : gb102 ≠ gb101)); clear BK101; clear HB; have BK101 := n0_; have HB := n1_; have BK102 := n2_; have GW102 := n3_; have GE102 := n4_; have NB101_102 := n5_; have NB102_101 := n6_; clear n0_ n1_ n2_ n3_ n4_ n5_ n6_; clear hb hbox hg) | ((with_reducible refine gate_dst (N := 4) rfl ?_); refine box_event ?hg (N := 4) ?hd (cs := #[.int .i64 0, .int .i64 0]) (t := 110) ?hr ?_; (case hd => rfl); (case hg => rfl); (case hr => first | (go_simp; done) | (go_simp; rfl)); intro gb103 hg w6 hbox hb; have n0_ := Aside0.mk (blk_below (g := gb101) (o := .cells #[.int .i64 a0_0, .int .i64 a0_1, .int .i64 a0_2, .int .i64 a0_3, .int .i64 a0_4] 86 (0, 0)) (bs_ BK101.out) hb); have n1_ := Aside0.mk (blk_below (g := gb102) (o := .cells #[.int .i64 a1_0, .int .i64 a1_1, .int .i64 a1_2] 31 (0, 0)) (bs_ BK102.out) hb); have n2_ := Aside0.mk (below_step (by repeat (first | (with_reducible first | exact HB.out | apply below_alloc | apply pw_below_drewN | apply below_drew1 | refine below_set ?_ GE101.out | refine below_set ?_ GE102.out) | exact HB.out)) hb); have n3_ := Aside0.mk (hbox); have n4_ := Aside0.mk ((by rw [hg]; exact (below_size (by repeat (first | (with_reducible first | exact HB.out | apply below_alloc | apply pw_below_drewN | apply below_drew1 | refine below_set ?_ GE101.out | refine below_set ?_ GE102.out) | exact HB.out))) : w.heap.size ≤ gb103)); have n5_ := Aside0.mk ((by rw [hg]; exact (below_size (by repeat (first | (with_reducible first | exact HB.out | apply below_alloc | apply pw_below_drewN | apply below_drew1 | refine below_set ?_ GE101.out | refine below_set ?_ GE102.out) | exact HB.out))) : w.heap.size ≤ gb103)); have n6_ := Aside0.mk ((by rw [hg]; exact Nat.ne_of_lt (blk_lt (g := gb101) (o := .cells #[.int .i64 a0_0, .int .i64 a0_1, .int .i64 a0_2, .int .i64 a0_3, .int .i64 a0_4] 86 (0, 0)) (bs_ BK101.out)) : gb101 ≠ gb103)); have n7_ := Aside0.mk ((by rw [hg]; exact Nat.ne_of_gt (blk_lt (g := gb101) (o := .cells #[.int .i64 a0_0, .int .i64 a0_1, .int .i64 a0_2, .int .i64 a0_3, .int .i64 a0_4] 86 (0, 0)) (bs_ BK101.out)) : gb103 ≠ gb101)); have n8_ := Aside0.mk ((by rw [hg]; exact Nat.ne_of_lt (blk_lt (g := gb102) (o := .cells #[.int .i64 a1_0, .int .i64 a1_1, .int .i64 a1_2] 31 (0, 0)) (bs_ BK102.out)) : gb102 ≠ gb103)); have n9_ := Aside0.mk ((by rw [hg]; exact Nat.ne_of_gt (blk_lt (g := gb102) (o := .cells #[.int .i64 a1_0, .int .i64 a1_1, .int .i64 a1_2] 31 (0, 0)) (bs_ BK102.out)) : gb103 ≠ gb102)); clear BK101; clear BK102; clear HB; have BK101 := n0_; have BK102 := n1_; have HB := n2_; have BK103 := n3_; have GW103 := n4_; have GE103 := n5_; have NB101_103 := n6_; have NB103_101 := n7_; have NB102_103 := n8_; have NB103_102 := n9_; clear n0_ n1_ n2_ n3_ n4_ n5_ n6_ n7_ n8_ n9_; clear hb hbox hg; have hnb7 := NB101_102.out; have hnc7 := NB102_101.out; have hnb8 := NB101_103.out; have hnc8 := NB103_101.out; have hcz9_0 : w6.cell? ⟨gb101, 0, none⟩ = some (.int .i64 a0_0) := (blk_cell BK101.out 0).trans rfl; have hcz9_1 : w6.cell? ⟨gb101, 1, none⟩ = some (.int .i64 a0_1) := (blk_cell BK101.out 1).trans rfl; have hcz9_2 : w6.cell? ⟨gb101, 2, none⟩ = some (.int .i64 a0_2) := (blk_cell BK101.out 2).trans rfl; have hcz9_3 : w6.cell? ⟨gb101, 3, none⟩ = some (.int .i64 a0_3) := (blk_cell BK101.out 3).trans rfl; have hcz9_4 : w6.cell? ⟨gb101, 4, none⟩ = some (.int .i64 a0_4) := (blk_cell BK101.out 4).trans rfl; have hfz9_0 := blk_frozen BK101.out 0; have hfz9_1 := blk_frozen BK101.out 1; have hfz9_2 := blk_frozen BK101.out 2; have hfz9_3 := blk_frozen BK101.out 3; have hfz9_4 := blk_frozen BK101.out 4; have hnb10 := NB102_103.out; have hnc10 := NB103_102.out; have hcz11_0 : w6.cell? ⟨gb102, 0, none⟩ = some (.int .i64 a1_0) := (blk_cell BK102.out 0).trans rfl; have hcz11_1 : w6.cell? ⟨gb102, 1, none⟩ = some (.int .i64 a1_1) := (blk_cell BK102.out 1).trans rfl; have hcz11_2 : w6.cell? ⟨gb102, 2, none⟩ = some (.int .i64 a1_2) := (blk_cell BK102.out 2).trans rfl; have hfz11_0 := blk_frozen BK102.out 0; have hfz11_1 := blk_frozen BK102.out 1; have hfz11_2 := blk_frozen BK102.out 2) | ((with_reducible refine gate_callee (f := 87) rfl ?_); refine gl_ (some 19) Tryz.func87 #[.agg #[.int .i64 a1_0, .int .i64 a1_1, .int .i64 a1_2], .int .i64 a0_0, .int .i64 (wrap64 ((wrap64 (a0_4 + a0_2)) - a0_0))] ?_; (with_reducible refine (market_Prices_settled.calls a1_0 a1_1 a1_2 a0_0 (wrap64 ((wrap64 (a0_4 + a0_2)) - a0_0)) t104 _ A3.out).mono ?_); rintro e w12 ⟨rfl, hb⟩; refine ⟨_, rfl, ?_⟩; have n0_ := Aside0.mk (blk_below (g := gb101) (o := .cells #[.int .i64 a0_0, .int .i64 a0_1, .int .i64 a0_2, .int .i64 a0_3, .int .i64 a0_4] 86 (0, 0)) (bs_ BK101.out) hb); have n1_ := Aside0.mk (blk_below (g := gb102) (o := .cells #[.int .i64 a1_0, .int .i64 a1_1, .int .i64 a1_2] 31 (0, 0)) (bs_ BK102.out) hb); have n2_ := Aside0.mk (blk_below (g := gb103) (o := .cells #[.int .i64 0, .int .i64 0] 110 (0, 0)) (bs_ BK103.out) hb); have n3_ := Aside0.mk (below_step (by repeat (first | (with_reducible first | exact HB.out | apply below_alloc | apply pw_below_drewN | apply below_drew1 | refine below_set ?_ GE101.out | refine below_set ?_ GE102.out | refine below_set ?_ GE103.out) | exact HB.out)) hb); clear BK101; clear BK102; clear BK103; clear HB; have BK101 := n0_; have BK102 := n1_; have BK103 := n2_; have HB := n3_; clear n0_ n1_ n2_ n3_; (try clear hb); (try clear hb2); (try clear hk); (try clear hi); have hcz13_0 : w12.cell? ⟨gb103, 0, none⟩ = some (.int .i64 0) := (blk_cell BK103.out 0).trans rfl; have hcz13_1 : w12.cell? ⟨gb103, 1, none⟩ = some (.int .i64 0) := (blk_cell BK103.out 1).trans rfl; have hfz13_0 := blk_frozen BK103.out 0; have hfz13_1 := blk_frozen BK103.out 1))
 refine bodyPost_ret (results_cell_row rfl _ _ gb103 110 #[.int .i64 (wrap64 ((wrap64 (a0_4 + a0_2)) - a0_0)), .int .i64 t104] (0, 0) _ rfl (by (with_reducible repeat (first | refine blk_drewN ?_ _ | refine blk_drew ?_ | refine blk_alloc ?_ _)); refine blk_put (cs := #[.int .i64 (wrap64 ((wrap64 (a0_4 + a0_2)) - a0_0)), .int .i64 0]) ?_ 1 _ rfl; (with_reducible repeat (first | refine blk_drewN ?_ _ | refine blk_drew ?_ | refine blk_alloc ?_ _)); refine blk_put (cs := #[.int .i64 0, .int .i64 0]) ?_ 0 _ rfl; (with_reducible repeat (first | refine blk_drewN ?_ _ | refine blk_drew ?_ | refine blk_alloc ?_ _)); exact BK103.out) Tryz.underlying110 rfl (by kernel_rfl)) rfl ?_
 exact ⟨by first | rfl | (simp [errW_none, errW_some] <;> rfl) | (simp [*, errW_none, errW_some] <;> rfl), by repeat (first | (with_reducible first | exact HB.out | apply below_alloc | apply pw_below_drewN | apply below_drew1 | refine below_set ?_ GE101.out | refine below_set ?_ GE102.out | refine below_set ?_ GE103.out) | exact HB.out)⟩
/-! ### market_Quarter_numbers: function 123 -/
def market_Quarter_numbers.f (a0_0 : Int) (a0_1 : Int) (a0_2 : Int) (a0_3 : Int) (a0_4 : Int) : Option (Int × Int × Int × Int × Int) := some (a0_0, a0_1, a0_2, a0_3, a0_4)
set_option maxHeartbeats 8000000 in
set_option maxRecDepth 100000 in
theorem market_Quarter_numbers.calls (a0_0 : Int) (a0_1 : Int) (a0_2 : Int) (a0_3 : Int) (a0_4 : Int) (r1 : Int) (r2 : Int) (r3 : Int) (r4 : Int) (r5 : Int) (w : World) (h : market_Quarter_numbers.f a0_0 a0_1 a0_2 a0_3 a0_4 = some (r1, r2, r3, r4, r5)) :
  Calls Tryz.prog 123 #[.agg #[.int .i64 a0_0, .int .i64 a0_1, .int .i64 a0_2, .int .i64 a0_3, .int .i64 a0_4]] w fun e w' => e = .returned (.agg #[.int .i64 r1, .int .i64 r2, .int .i64 r3, .int .i64 r4, .int .i64 r5]) ∧ Below w.heap.size w w' := by
 have hu86 := Tryz.underlying86
 have hu183 := Tryz.underlying183
 have HB := Aside0.mk (Below.refl w.heap.size w)
 have H : (some (a0_0, a0_1, a0_2, a0_3, a0_4)) = some (r1, r2, r3, r4, r5) := h
 clear h
 simp only [Option.some.injEq, Prod.mk.injEq] at H
 obtain ⟨rfl, rfl, rfl, rfl, rfl⟩ := H
 go_enter Tryz.func123, Tryz.ntmps123
 go_wp2_with (first | ((with_reducible refine gate_dst (N := 1) rfl ?_); refine box_event ?hg (N := 1) ?hd (cs := #[.int .i64 a0_0, .int .i64 a0_1, .int .i64 a0_2, .int .i64 a0_3, .int .i64 a0_4]) (t := 86) ?hr ?_; (case hd => rfl); (case hg => rfl); (case hr => first | (go_simp; done) | (go_simp; rfl)); intro gb101 hg w2 hbox hb; have n0_ := Aside0.mk (below_step (ws_ HB.out) hb); have n1_ := Aside0.mk (hbox); have n2_ := Aside0.mk ((by rw [hg]; exact (below_size (ws_ HB.out)) : w.heap.size ≤ gb101)); have n3_ := Aside0.mk ((by rw [hg]; exact (below_size (ws_ HB.out)) : w.heap.size ≤ gb101)); clear HB; have HB := n0_; have BK101 := n1_; have GW101 := n2_; have GE101 := n3_; clear n0_ n1_ n2_ n3_; clear hb hbox hg) | ((with_reducible refine gate_dst (N := 2) rfl ?_); refine box_event ?hg (N := 2) ?hd (cs := #[.int .i64 0, .int .i64 0, .int .i64 0, .int .i64 0, .int .i64 0]) (t := 183) ?hr ?_; (case hd => rfl); (case hg => rfl); (case hr => first | (go_simp; done) | (go_simp; rfl)); intro gb102 hg w3 hbox hb; have n0_ := Aside0.mk (blk_below (g := gb101) (o := .cells #[.int .i64 a0_0, .int .i64 a0_1, .int .i64 a0_2, .int .i64 a0_3, .int .i64 a0_4] 86 (0, 0)) (bs_ BK101.out) hb); have n1_ := Aside0.mk (below_step (wg_ HB.out GE101.out) hb); have n2_ := Aside0.mk (hbox); have n3_ := Aside0.mk ((by rw [hg]; exact (below_size (wg_ HB.out GE101.out)) : w.heap.size ≤ gb102)); have n4_ := Aside0.mk ((by rw [hg]; exact (below_size (wg_ HB.out GE101.out)) : w.heap.size ≤ gb102)); have n5_ := Aside0.mk ((by rw [hg]; exact Nat.ne_of_lt (blk_lt (g := gb101) (o := .cells #[.int .i64 a0_0, .int .i64 a0_1, .int .i64 a0_2, .int .i64 a0_3, .int .i64 a0_4] 86 (0, 0)) (bs_ BK101.out)) : gb101 ≠ gb102)); have n6_ := Aside0.mk ((by rw [hg]; exact Nat.ne_of_gt (blk_lt (g := gb101) (o := .cells #[.int .i64 a0_0, .int .i64 a0_1, .int .i64 a0_2, .int .i64 a0_3, .int .i64 a0_4] 86 (0, 0)) (bs_ BK101.out)) : gb102 ≠ gb101)); clear BK101; clear HB; have BK101 := n0_; have HB := n1_; have BK102 := n2_; have GW102 := n3_; have GE102 := n4_; have NB101_102 := n5_; have NB102_101 := n6_; clear n0_ n1_ n2_ n3_ n4_ n5_ n6_; clear hb hbox hg; have hnb4 := NB101_102.out; have hnc4 := NB102_101.out; have hcz5_0 : w3.cell? ⟨gb101, 0, none⟩ = some (.int .i64 a0_0) := (blk_cell BK101.out 0).trans rfl; have hcz5_1 : w3.cell? ⟨gb101, 1, none⟩ = some (.int .i64 a0_1) := (blk_cell BK101.out 1).trans rfl; have hcz5_2 : w3.cell? ⟨gb101, 2, none⟩ = some (.int .i64 a0_2) := (blk_cell BK101.out 2).trans rfl; have hcz5_3 : w3.cell? ⟨gb101, 3, none⟩ = some (.int .i64 a0_3) := (blk_cell BK101.out 3).trans rfl; have hcz5_4 : w3.cell? ⟨gb101, 4, none⟩ = some (.int .i64 a0_4) := (blk_cell BK101.out 4).trans rfl; have hfz5_0 := blk_frozen BK101.out 0; have hfz5_1 := blk_frozen BK101.out 1; have hfz5_2 := blk_frozen BK101.out 2; have hfz5_3 := blk_frozen BK101.out 3; have hfz5_4 := blk_frozen BK101.out 4; have hcz6_0 : w3.cell? ⟨gb102, 0, none⟩ = some (.int .i64 0) := (blk_cell BK102.out 0).trans rfl; have hcz6_1 : w3.cell? ⟨gb102, 1, none⟩ = some (.int .i64 0) := (blk_cell BK102.out 1).trans rfl; have hcz6_2 : w3.cell? ⟨gb102, 2, none⟩ = some (.int .i64 0) := (blk_cell BK102.out 2).trans rfl; have hcz6_3 : w3.cell? ⟨gb102, 3, none⟩ = some (.int .i64 0) := (blk_cell BK102.out 3).trans rfl; have hcz6_4 : w3.cell? ⟨gb102, 4, none⟩ = some (.int .i64 0) := (blk_cell BK102.out 4).trans rfl; have hfz6_0 := blk_frozen BK102.out 0; have hfz6_1 := blk_frozen BK102.out 1; have hfz6_2 := blk_frozen BK102.out 2; have hfz6_3 := blk_frozen BK102.out 3; have hfz6_4 := blk_frozen BK102.out 4))
 refine bodyPost_ret (results_cell_row rfl _ _ gb102 183 #[.int .i64 a0_0, .int .i64 a0_1, .int .i64 a0_2, .int .i64 a0_3, .int .i64 a0_4] (0, 0) _ rfl (by (with_reducible repeat (first | refine blk_drewN ?_ _ | refine blk_drew ?_ | refine blk_alloc ?_ _)); refine blk_put (cs := #[.int .i64 a0_0, .int .i64 a0_1, .int .i64 a0_2, .int .i64 a0_3, .int .i64 0]) ?_ 4 _ rfl; (with_reducible repeat (first | refine blk_drewN ?_ _ | refine blk_drew ?_ | refine blk_alloc ?_ _)); refine blk_put (cs := #[.int .i64 a0_0, .int .i64 a0_1, .int .i64 a0_2, .int .i64 0, .int .i64 0]) ?_ 3 _ rfl; (with_reducible repeat (first | refine blk_drewN ?_ _ | refine blk_drew ?_ | refine blk_alloc ?_ _)); refine blk_put (cs := #[.int .i64 a0_0, .int .i64 a0_1, .int .i64 0, .int .i64 0, .int .i64 0]) ?_ 2 _ rfl; (with_reducible repeat (first | refine blk_drewN ?_ _ | refine blk_drew ?_ | refine blk_alloc ?_ _)); refine blk_put (cs := #[.int .i64 a0_0, .int .i64 0, .int .i64 0, .int .i64 0, .int .i64 0]) ?_ 1 _ rfl; (with_reducible repeat (first | refine blk_drewN ?_ _ | refine blk_drew ?_ | refine blk_alloc ?_ _)); refine blk_put (cs := #[.int .i64 0, .int .i64 0, .int .i64 0, .int .i64 0, .int .i64 0]) ?_ 0 _ rfl; (with_reducible repeat (first | refine blk_drewN ?_ _ | refine blk_drew ?_ | refine blk_alloc ?_ _)); exact BK102.out) Tryz.underlying183 rfl (by kernel_rfl)) rfl ?_
 exact ⟨by first | rfl | (simp [errW_none, errW_some] <;> rfl) | (simp [*, errW_none, errW_some] <;> rfl), by repeat (first | (with_reducible first | exact HB.out | apply below_alloc | apply pw_below_drewN | apply below_drew1 | refine below_set ?_ GE101.out | refine below_set ?_ GE102.out) | exact HB.out)⟩
/-! ### api_Errno_92__market_checkTotal: function 92 -/
def api_Errno_92__market_checkTotal.l0 : Nat → List Int → List Int → Int → Int → Option (List Int)
 | 0, _, _, _, _ => none
 | k + 1, x5, x8, x9, x10 => if x10 < x9 then (if 0 ≤ x10 then (if x10 < (x8.length : Int) then ((market_checkTotal.f (rd x8 x10)).bind fun t102 => (if x5.length < 17592186044416 then (api_Errno_92__market_checkTotal.l0 k (x5 ++ [t102]) x8 x9 (wrap64 (x10 + 1))) else (none))) else (none)) else (none)) else (some x5)
def api_Errno_92__market_checkTotal.f (k : Nat) (l0 : List Int) (a1 : Unit) : Option (List Int) := api_Errno_92__market_checkTotal.l0 k ([] : List Int) l0 (l0.length : Int) 0
set_option maxHeartbeats 8000000 in
set_option maxRecDepth 100000 in
theorem api_Errno_92__market_checkTotal.calls (k : Nat) (A0 : Option Addr) (c0 : Nat) (l0 : List Int) (a1 : Unit) (r : List Int) (w : World) (hr0 : Kd.C (Kd.int .i64) w A0 l0.length l0) (hc0 : l0.length ≤ c0) (h : api_Errno_92__market_checkTotal.f k l0 a1 = some r) :
  Calls Tryz.prog 92 #[.slice A0 l0.length c0, .func (.func 101) #[] #[]] w fun e w' => ∃ v0_ : Value, e = .returned (v0_) ∧ Kd.R (Kd.int .i64) 28 w' w.heap.size (fun _ => True) v0_ r ∧ Below w.heap.size w w' := by
 have HR0 := Aside0.mk hr0
 have HC0 := Aside0.mk hc0
 clear hr0 hc0
 have HB := Aside0.mk (Below.refl w.heap.size w)
 have H : (api_Errno_92__market_checkTotal.l0 k ([] : List Int) l0 (l0.length : Int) 0) = some r := h
 clear h
 have H' := Aside0.mk H
 clear H
 go_enter Tryz.func92, Tryz.ntmps92
 go_wp2
 go_loopg [5, 10] k (fun kq v5 v10 w' => ∃ (x5_1 : List Int) (x10_1 : Int), v10 = .int .i64 x10_1 ∧ Aside0 (api_Errno_92__market_checkTotal.l0 kq x5_1 l0 (l0.length : Int) x10_1 = some r) ∧ Aside0 (kq ≤ k) ∧ Aside0 (Kd.R (Kd.int .i64) 28 w' w.heap.size (fun _ => True) v5 x5_1) ∧ Aside0 (Below w.heap.size w w'))
 case atStart => exact ⟨(([] : List Int)), (0), (by first | rfl | (simp; done) | (simp [*]; done)), H', ⟨Nat.le_refl _⟩, ⟨by first | exact Kd.R_nil _ _ _ _ _ | exact Kd.N_nil _ _ _ _ _ | exact Kd.V_nil _ _ _ _ _ | exact Kd.Q_nil _ _ _ _ _ | exact Kd.S_nil _ _ _ _ _⟩, ⟨by repeat (first | (with_reducible first | exact HB.out | apply below_alloc | apply pw_below_drewN | apply below_drew1) | exact HB.out)⟩⟩
 case round =>
  clear H'
  try clear p2
  obtain ⟨x5_1, x10_1, rfl, HA, HK1, HO_5, HB⟩ := hrel
  cases gk with
  | zero => exact absurd HA.out (by simp [api_Errno_92__market_checkTotal.l0])
  | succ k1 =>
   have H := HA.out
   clear HA
   simp only [api_Errno_92__market_checkTotal.l0] at H
   by_cases c3 : x10_1 < (l0.length : Int)
   ·rw [if_pos c3] at H
    have c3b0 : decide (x10_1 < (l0.length : Int)) = true := decide_eq_true c3
    clear c3
    by_cases c4 : 0 ≤ x10_1
    ·rw [if_pos c4] at H
     have c4b0 : decide (0 ≤ x10_1) = true := decide_eq_true c4
     clear c4
     by_cases c5 : x10_1 < (l0.length : Int)
     ·rw [if_pos c5] at H
      have c5b0 : decide (x10_1 < (l0.length : Int)) = true := decide_eq_true c5
      clear c5
      replace H := Option.bind_eq_some_iff.mp H
      obtain ⟨t102, A60, H⟩ := H
      replace H : (if x5_1.length < 17592186044416 then (api_Errno_92__market_checkTotal.l0 k1 (x5_1 ++ [t102]) l0 (l0.length : Int) (wrap64 (x10_1 + 1))) else (none)) = some r := H
      have A6 := Aside0.mk A60
      clear A60
      by_cases c7 : x5_1.length < 17592186044416
      ·rw [if_pos c7] at H
       have LMc7 := Aside0.mk c7
       clear c7
       obtain ⟨y103, hy103⟩ : ∃ y_ : List Int, y_ = (x5_1 ++ [t102]) := ⟨_, rfl⟩
       replace H : (api_Errno_92__market_checkTotal.l0 k1 y103 l0 (l0.length : Int) (wrap64 (x10_1 + 1))) = some r := by first | (rw [hy103]; with_reducible exact H) | (have H2_ := (Option.bind_some _ _).symm.trans H; rw [hy103]; with_reducible exact H2_) | (have H2_ := (Option.bind_some _ _).symm.trans H; with_reducible exact H2_) | with_reducible exact H | (rw [hy103]; exact H) | exact H
       have Ny103 := Aside0.mk hy103
       clear hy103
       have H' := Aside0.mk H
       clear H
       have p101 : 0 ≤ (x10_1 : Int) := of_decide_eq_true (by first | (with_reducible assumption) | assumption)
       have q101 : x10_1 < (l0.length : Int) := of_decide_eq_true (by first | (with_reducible assumption) | assumption)
       obtain ⟨ad101, e101, hx101_0⟩ := Kd.at_int HR0.out x10_1 p101 q101
       cases e101
       replace hx101_0 := (HB.out.cell (World.block_lt_of_cell? w _ hx101_0)).trans hx101_0
       replace p101 := eq_true p101
       replace q101 := eq_true q101
       go_wp2_with (first | ((with_reducible refine gate_calleeT (t := 15) rfl ?_); refine goesT_ (some 17) rfl rfl Tryz.func101 (by kernel_rfl) rfl #[.int .i64 (rd l0 x10_1)] rfl rfl (by (try simp only [List.map_toArray, List.map_cons, List.map_nil]); first | done | rfl | (simp only [List.length_drop, List.length_take]; rfl)) ?_; (with_reducible refine (market_checkTotal.calls (rd l0 x10_1) t102 _ A6.out).mono ?_); rintro e w' ⟨rfl, ⟨nd, rfl⟩⟩; refine ⟨_, rfl, ?_⟩) | ((with_reducible refine gate_builtin (b := .append) (xs := #[.tmp 14, .tmp 18]) rfl ?_); at_builtin; refine Kd.R_append (Kd.int .i64) (w0 := w) w.heap.size rfl (.tmp 14) (.tmp 18) 158 28 (.int .i64 0) 8 rfl Tryz.underlying158 info28 rfl (by decide) (by omega) u5 x5_1 t102 [.int .i64 t102] (fun _ => True) (fun _ => False) rfl rfl ?aP (fun _ hk => hk.elim) ?aF ?aO ?aB ?aS ?aL ?_; (case aP => exact rfl); (case aB => exact (ws_ HB.out)); (case aF => exact (fun _ _ => trivial)); (case aO => exact (rs_ HO_5.out)); (case aS => exact (below_size (ws_ HB.out))); (case aL => have := LMc7.out; omega); intro v104 w8 ho hb hg hat; rw [← Ny103.out] at ho; have n0_ := Aside0.mk (hb); have n1_ := Aside0.mk (ho); clear HB; clear HO_5; have HB := n0_; have HO105 := n1_; clear n0_ n1_; clear ho hb hg hat))
       go_roundg k1
       case measure => have := HK1.out; omega
       case rel => exact ⟨(y103), (wrap64 (x10_1 + 1)), (by first | rfl | (simp; done) | (simp [*]; done)), H', ⟨by have := HK1.out; omega⟩, ⟨by (with_reducible repeat (first | apply Kd.R_alloc | apply Kd.R_drewN | apply Kd.R_drew)); exact HO105.out⟩, ⟨by repeat (first | (with_reducible first | exact HB.out | apply below_alloc | apply pw_below_drewN | apply below_drew1) | exact HB.out)⟩⟩
      ·rw [if_neg c7] at H
       exact absurd H (by simp)
     ·rw [if_neg c5] at H
      exact absurd H (by simp)
    ·rw [if_neg c4] at H
     exact absurd H (by simp)
   ·rw [if_neg c3] at H
    have c3b0 : decide (x10_1 < (l0.length : Int)) = false := decide_eq_false c3
    clear c3
    obtain rfl := Option.some.inj H
    go_wp2
    go_ret
    exact ⟨_, by first | rfl | (simp [errW_none, errW_some] <;> rfl) | (simp [*, errW_none, errW_some] <;> rfl), by (with_reducible repeat (first | apply Kd.R_alloc | apply Kd.R_drewN | apply Kd.R_drew)); exact HO_5.out, by repeat (first | (with_reducible first | exact HB.out | apply below_alloc | apply pw_below_drewN | apply below_drew1) | exact HB.out)⟩
end Go.Proofs.YtfdlhbdcejlopaaGreatDoor.B
