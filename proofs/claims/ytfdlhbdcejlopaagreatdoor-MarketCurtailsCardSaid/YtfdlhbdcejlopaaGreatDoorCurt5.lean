/- MarketCurtails: the law returns true at every input, and each argument reads behind the call as it read before (condition: the listed tables of Go's library hold what the program's text lays), part 5 of 6. -/
import Derived.WideKeyPair
import Derived.DeepKeys4
import Derived.Maps.OwnSet
import Derived.Maps.OwnOps
import Derived.Maps.Views
import Derived.Maps.Ext
import Derived.KernelRfl
import Derived.WalkKit
import Derived.BigQuiet
import Derived.StillTailTactics
import Derived.Test.YtfdlhbdcejlopaaGreatDoorCurt4
namespace Go.Proofs.YtfdlhbdcejlopaaGreatDoor.B
open Go.RowKit Go.Proofs.YtfdlhbdcejlopaaGreatDoorW.PrintWords Go.Proofs.YtfdlhbdcejlopaaGreatDoorW.PrintLast Go.Proofs.YtfdlhbdcejlopaaGreatDoorW.PrintMore
attribute [local go_sem] max2_int min2_int max_two min_two
set_option linter.unusedVariables false
set_option linter.unusedSimpArgs false
attribute [local go_sem high] eqA183 /-! ### market_CheckQuarter: function 59 -/
def market_CheckQuarter.f (k : Nat) (a0_0 : Int) (a0_1 : Int) (a0_2 : Int) (a0_3 : Int) (a0_4 : Int) : Option (Int) := (market_Quarter_numbers.f a0_0 a0_1 a0_2 a0_3 a0_4).bind fun bt102 => ((api_Errno_92__market_checkTotal.f k (([bt102.1, bt102.2.1, bt102.2.2.1, bt102.2.2.2.1, bt102.2.2.2.2] : List Int)) ()).bind fun t111 => ((market_first.f k t111).bind fun t114 => (if t114 = 0 then ((market_Quarter_numbers.f a0_0 (wrap64 ((wrap64 (a0_2 + a0_3)) + a0_4)) a0_2 a0_3 a0_4).bind fun bt116 => ((market_when.f (!(bt116.1 == bt102.1) || (!(bt116.2.1 == bt102.2.1) || (!(bt116.2.2.1 == bt102.2.2.1) || (!(bt116.2.2.2.1 == bt102.2.2.2.1) || (!(bt116.2.2.2.2 == bt102.2.2.2.2)))))) 30).bind fun t121 => (some t121))) else (some t114))))
set_option maxHeartbeats 8000000 in
set_option maxRecDepth 100000 in
theorem market_CheckQuarter.calls (k : Nat) (a0_0 : Int) (a0_1 : Int) (a0_2 : Int) (a0_3 : Int) (a0_4 : Int) (r : Int) (w : World) (h : market_CheckQuarter.f k a0_0 a0_1 a0_2 a0_3 a0_4 = some r) :
  Calls Tryz.prog 59 #[.agg #[.int .i64 a0_0, .int .i64 a0_1, .int .i64 a0_2, .int .i64 a0_3, .int .i64 a0_4]] w fun e w' => e = .returned (.int .i64 r) ∧ Below w.heap.size w w' := by
 have hu86 := Tryz.underlying86
 have hu183 := Tryz.underlying183
 have HB := Aside0.mk (Below.refl w.heap.size w)
 have H : ((market_Quarter_numbers.f a0_0 a0_1 a0_2 a0_3 a0_4).bind fun bt102 => ((api_Errno_92__market_checkTotal.f k (([bt102.1, bt102.2.1, bt102.2.2.1, bt102.2.2.2.1, bt102.2.2.2.2] : List Int)) ()).bind fun t111 => ((market_first.f k t111).bind fun t114 => (if t114 = 0 then ((market_Quarter_numbers.f a0_0 (wrap64 ((wrap64 (a0_2 + a0_3)) + a0_4)) a0_2 a0_3 a0_4).bind fun bt116 => ((market_when.f (!(bt116.1 == bt102.1) || (!(bt116.2.1 == bt102.2.1) || (!(bt116.2.2.1 == bt102.2.2.1) || (!(bt116.2.2.2.1 == bt102.2.2.2.1) || (!(bt116.2.2.2.2 == bt102.2.2.2.2)))))) 30).bind fun t121 => (some t121))) else (some t114))))) = some r := h
 clear h
 replace H := Option.bind_eq_some_iff.mp H
 obtain ⟨⟨t102, t103, t104, t105, t106⟩, A20, H⟩ := H
 replace H : ((api_Errno_92__market_checkTotal.f k (([t102, t103, t104, t105, t106] : List Int)) ()).bind fun t111 => ((market_first.f k t111).bind fun t114 => (if t114 = 0 then ((market_Quarter_numbers.f a0_0 (wrap64 ((wrap64 (a0_2 + a0_3)) + a0_4)) a0_2 a0_3 a0_4).bind fun bt116 => ((market_when.f (!(bt116.1 == t102) || (!(bt116.2.1 == t103) || (!(bt116.2.2.1 == t104) || (!(bt116.2.2.2.1 == t105) || (!(bt116.2.2.2.2 == t106)))))) 30).bind fun t121 => (some t121))) else (some t114)))) = some r := H
 have A2 := Aside0.mk A20
 clear A20
 obtain ⟨y108, hy108⟩ : ∃ y_ : List Int, y_ = (([t102, t103, t104, t105, t106] : List Int)) := ⟨_, rfl⟩
 replace H : ((api_Errno_92__market_checkTotal.f k y108 ()).bind fun t111 => ((market_first.f k t111).bind fun t114 => (if t114 = 0 then ((market_Quarter_numbers.f a0_0 (wrap64 ((wrap64 (a0_2 + a0_3)) + a0_4)) a0_2 a0_3 a0_4).bind fun bt116 => ((market_when.f (!(bt116.1 == t102) || (!(bt116.2.1 == t103) || (!(bt116.2.2.1 == t104) || (!(bt116.2.2.2.1 == t105) || (!(bt116.2.2.2.2 == t106)))))) 30).bind fun t121 => (some t121))) else (some t114)))) = some r := by first | (rw [hy108]; with_reducible exact H) | (have H2_ := (Option.bind_some _ _).symm.trans H; rw [hy108]; with_reducible exact H2_) | (have H2_ := (Option.bind_some _ _).symm.trans H; with_reducible exact H2_) | with_reducible exact H | (rw [hy108]; exact H) | exact H
 have Ny108 := Aside0.mk hy108
 clear hy108
 replace H := Option.bind_eq_some_iff.mp H
 obtain ⟨t111, A30, H⟩ := H
 replace H : ((market_first.f k t111).bind fun t114 => (if t114 = 0 then ((market_Quarter_numbers.f a0_0 (wrap64 ((wrap64 (a0_2 + a0_3)) + a0_4)) a0_2 a0_3 a0_4).bind fun bt116 => ((market_when.f (!(bt116.1 == t102) || (!(bt116.2.1 == t103) || (!(bt116.2.2.1 == t104) || (!(bt116.2.2.2.1 == t105) || (!(bt116.2.2.2.2 == t106)))))) 30).bind fun t121 => (some t121))) else (some t114))) = some r := H
 have A3 := Aside0.mk A30
 clear A30
 replace H := Option.bind_eq_some_iff.mp H
 obtain ⟨t114, A40, H⟩ := H
 replace H : (if t114 = 0 then ((market_Quarter_numbers.f a0_0 (wrap64 ((wrap64 (a0_2 + a0_3)) + a0_4)) a0_2 a0_3 a0_4).bind fun bt116 => ((market_when.f (!(bt116.1 == t102) || (!(bt116.2.1 == t103) || (!(bt116.2.2.1 == t104) || (!(bt116.2.2.2.1 == t105) || (!(bt116.2.2.2.2 == t106)))))) 30).bind fun t121 => (some t121))) else (some t114)) = some r := H
 have A4 := Aside0.mk A40
 clear A40
 by_cases c5 : t114 = 0
 ·rw [if_pos c5] at H
  have c5b0 : (t114 == 0) = true := beq_iff_eq.mpr c5
  have c5b1 : (t114 != 0) = false := bne_eq_false_iff_eq.mpr c5
  clear c5
  replace H := Option.bind_eq_some_iff.mp H
  obtain ⟨⟨t116, t117, t118, t119, t120⟩, A60, H⟩ := H
  replace H : ((market_when.f (!(t116 == t102) || (!(t117 == t103) || (!(t118 == t104) || (!(t119 == t105) || (!(t120 == t106)))))) 30).bind fun t121 => (some t121)) = some r := H
  have A6 := Aside0.mk A60
  clear A60
  replace H := Option.bind_eq_some_iff.mp H
  obtain ⟨t121, A70, H⟩ := H
  replace H : (some t121) = some r := H
  have A7 := Aside0.mk A70
  clear A70
  obtain rfl := Option.some.inj H
  go_enter Tryz.func59, Tryz.ntmps59
  try go_wp2_with (first | ((with_reducible refine gate_dst (N := 1) rfl ?_); refine box_event ?hg (N := 1) ?hd (cs := #[.int .i64 a0_0, .int .i64 a0_1, .int .i64 a0_2, .int .i64 a0_3, .int .i64 a0_4]) (t := 86) ?hr ?_; (case hd => rfl); (case hg => rfl); (case hr => first | (go_simp; done) | (go_simp; rfl)); intro gb101 hg w8 hbox hb; have n0_ := Aside0.mk (below_step (ws_ HB.out) hb); have n1_ := Aside0.mk (hbox); have n2_ := Aside0.mk ((by rw [hg]; exact (below_size (ws_ HB.out)) : w.heap.size ≤ gb101)); have n3_ := Aside0.mk ((by rw [hg]; exact (below_size (ws_ HB.out)) : w.heap.size ≤ gb101)); clear HB; have HB := n0_; have BK101 := n1_; have GW101 := n2_; have GE101 := n3_; clear n0_ n1_ n2_ n3_; clear hb hbox hg; have hcz9_0 : w8.cell? ⟨gb101, 0, none⟩ = some (.int .i64 a0_0) := (blk_cell BK101.out 0).trans rfl; have hcz9_1 : w8.cell? ⟨gb101, 1, none⟩ = some (.int .i64 a0_1) := (blk_cell BK101.out 1).trans rfl; have hcz9_2 : w8.cell? ⟨gb101, 2, none⟩ = some (.int .i64 a0_2) := (blk_cell BK101.out 2).trans rfl; have hcz9_3 : w8.cell? ⟨gb101, 3, none⟩ = some (.int .i64 a0_3) := (blk_cell BK101.out 3).trans rfl; have hcz9_4 : w8.cell? ⟨gb101, 4, none⟩ = some (.int .i64 a0_4) := (blk_cell BK101.out 4).trans rfl; have hfz9_0 := blk_frozen BK101.out 0; have hfz9_1 := blk_frozen BK101.out 1; have hfz9_2 := blk_frozen BK101.out 2; have hfz9_3 := blk_frozen BK101.out 3; have hfz9_4 := blk_frozen BK101.out 4) | ((with_reducible refine gate_callee (f := 123) rfl ?_); refine gl_ (some 7) Tryz.func123 #[.agg #[.int .i64 a0_0, .int .i64 a0_1, .int .i64 a0_2, .int .i64 a0_3, .int .i64 a0_4]] ?_; (with_reducible refine (market_Quarter_numbers.calls a0_0 a0_1 a0_2 a0_3 a0_4 t102 t103 t104 t105 t106 _ A2.out).mono ?_); rintro e w10 ⟨rfl, hb⟩; refine ⟨_, rfl, ?_⟩; have n0_ := Aside0.mk (blk_below (g := gb101) (o := .cells #[.int .i64 a0_0, .int .i64 a0_1, .int .i64 a0_2, .int .i64 a0_3, .int .i64 a0_4] 86 (0, 0)) (bs_ BK101.out) hb); have n1_ := Aside0.mk (below_step (wg_ HB.out GE101.out) hb); clear BK101; clear HB; have BK101 := n0_; have HB := n1_; clear n0_ n1_; (try clear hb); (try clear hb2); (try clear hk); (try clear hi)) | ((with_reducible refine gate_dst (N := 3) rfl ?_); refine box_event ?hg (N := 3) ?hd (cs := #[.int .i64 0, .int .i64 0, .int .i64 0, .int .i64 0, .int .i64 0]) (t := 183) ?hr ?_; (case hd => rfl); (case hg => rfl); (case hr => first | (go_simp; done) | (go_simp; rfl)); intro gb107 hg w11 hbox hb; have n0_ := Aside0.mk (blk_below (g := gb101) (o := .cells #[.int .i64 a0_0, .int .i64 a0_1, .int .i64 a0_2, .int .i64 a0_3, .int .i64 a0_4] 86 (0, 0)) (bs_ BK101.out) hb); have n1_ := Aside0.mk (below_step (wg_ HB.out GE101.out) hb); have n2_ := Aside0.mk (hbox); have n3_ := Aside0.mk ((by rw [hg]; exact (below_size (wg_ HB.out GE101.out)) : w.heap.size ≤ gb107)); have n4_ := Aside0.mk ((by rw [hg]; exact (below_size (wg_ HB.out GE101.out)) : w.heap.size ≤ gb107)); have n5_ := Aside0.mk ((by rw [hg]; exact Nat.ne_of_lt (blk_lt (g := gb101) (o := .cells #[.int .i64 a0_0, .int .i64 a0_1, .int .i64 a0_2, .int .i64 a0_3, .int .i64 a0_4] 86 (0, 0)) (bs_ BK101.out)) : gb101 ≠ gb107)); have n6_ := Aside0.mk ((by rw [hg]; exact Nat.ne_of_gt (blk_lt (g := gb101) (o := .cells #[.int .i64 a0_0, .int .i64 a0_1, .int .i64 a0_2, .int .i64 a0_3, .int .i64 a0_4] 86 (0, 0)) (bs_ BK101.out)) : gb107 ≠ gb101)); clear BK101; clear HB; have BK101 := n0_; have HB := n1_; have BK107 := n2_; have GW107 := n3_; have GE107 := n4_; have NB101_107 := n5_; have NB107_101 := n6_; clear n0_ n1_ n2_ n3_ n4_ n5_ n6_; clear hb hbox hg; have hnb12 := NB107_101.out; have hnc12 := NB101_107.out; have hcz13_0 : w11.cell? ⟨gb107, 0, none⟩ = some (.int .i64 0) := (blk_cell BK107.out 0).trans rfl; have hcz13_1 : w11.cell? ⟨gb107, 1, none⟩ = some (.int .i64 0) := (blk_cell BK107.out 1).trans rfl; have hcz13_2 : w11.cell? ⟨gb107, 2, none⟩ = some (.int .i64 0) := (blk_cell BK107.out 2).trans rfl; have hcz13_3 : w11.cell? ⟨gb107, 3, none⟩ = some (.int .i64 0) := (blk_cell BK107.out 3).trans rfl; have hcz13_4 : w11.cell? ⟨gb107, 4, none⟩ = some (.int .i64 0) := (blk_cell BK107.out 4).trans rfl; have hfz13_0 := blk_frozen BK107.out 0; have hfz13_1 := blk_frozen BK107.out 1; have hfz13_2 := blk_frozen BK107.out 2; have hfz13_3 := blk_frozen BK107.out 3; have hfz13_4 := blk_frozen BK107.out 4) | ((with_reducible refine gate_dst (N := 8) rfl ?_); refine arr_event (v := .slice (some ⟨gb107, 0, none⟩) 5 5) ?hg (N := some 8) ?hd ?hr ?_; (case hd => rfl); (case hg => rfl); (case hr => first | (go_simp; done) | (go_simp; rfl)); intro v109 w14 hv_ hw_; have hb := below_eq hw_; have ho15 := R_arr5 GE107.out (blk_below (g := gb107) (o := .cells #[.int .i64 t102, .int .i64 t103, .int .i64 t104, .int .i64 t105, .int .i64 t106] 183 (0, 0)) (by (with_reducible repeat (first | refine blk_drewN ?_ _ | refine blk_drew ?_ | refine blk_alloc ?_ _)); refine blk_put (cs := #[.int .i64 t102, .int .i64 t103, .int .i64 t104, .int .i64 t105, .int .i64 0]) ?_ 4 _ rfl; (with_reducible repeat (first | refine blk_drewN ?_ _ | refine blk_drew ?_ | refine blk_alloc ?_ _)); refine blk_put (cs := #[.int .i64 t102, .int .i64 t103, .int .i64 t104, .int .i64 0, .int .i64 0]) ?_ 3 _ rfl; (with_reducible repeat (first | refine blk_drewN ?_ _ | refine blk_drew ?_ | refine blk_alloc ?_ _)); refine blk_put (cs := #[.int .i64 t102, .int .i64 t103, .int .i64 0, .int .i64 0, .int .i64 0]) ?_ 2 _ rfl; (with_reducible repeat (first | refine blk_drewN ?_ _ | refine blk_drew ?_ | refine blk_alloc ?_ _)); refine blk_put (cs := #[.int .i64 t102, .int .i64 0, .int .i64 0, .int .i64 0, .int .i64 0]) ?_ 1 _ rfl; (with_reducible repeat (first | refine blk_drewN ?_ _ | refine blk_drew ?_ | refine blk_alloc ?_ _)); refine blk_put (cs := #[.int .i64 0, .int .i64 0, .int .i64 0, .int .i64 0, .int .i64 0]) ?_ 0 _ rfl; (with_reducible repeat (first | refine blk_drewN ?_ _ | refine blk_drew ?_ | refine blk_alloc ?_ _)); exact BK107.out) hb); rw [← hv_, ← Ny108.out] at ho15; clear hv_ hw_; have n0_ := Aside0.mk ho15; have n1_ := Aside0.mk (blk_below (g := gb101) (o := .cells #[.int .i64 a0_0, .int .i64 a0_1, .int .i64 a0_2, .int .i64 a0_3, .int .i64 a0_4] 86 (0, 0)) (by (with_reducible repeat (first | refine blk_drewN ?_ _ | refine blk_drew ?_ | refine blk_alloc ?_ _)); refine blk_far ?_ NB101_107.out _; (with_reducible repeat (first | refine blk_drewN ?_ _ | refine blk_drew ?_ | refine blk_alloc ?_ _)); refine blk_far ?_ NB101_107.out _; (with_reducible repeat (first | refine blk_drewN ?_ _ | refine blk_drew ?_ | refine blk_alloc ?_ _)); refine blk_far ?_ NB101_107.out _; (with_reducible repeat (first | refine blk_drewN ?_ _ | refine blk_drew ?_ | refine blk_alloc ?_ _)); refine blk_far ?_ NB101_107.out _; (with_reducible repeat (first | refine blk_drewN ?_ _ | refine blk_drew ?_ | refine blk_alloc ?_ _)); refine blk_far ?_ NB101_107.out _; (with_reducible repeat (first | refine blk_drewN ?_ _ | refine blk_drew ?_ | refine blk_alloc ?_ _)); exact BK101.out) hb); have n2_ := Aside0.mk (blk_below (g := gb107) (o := .cells #[.int .i64 t102, .int .i64 t103, .int .i64 t104, .int .i64 t105, .int .i64 t106] 183 (0, 0)) (by (with_reducible repeat (first | refine blk_drewN ?_ _ | refine blk_drew ?_ | refine blk_alloc ?_ _)); refine blk_put (cs := #[.int .i64 t102, .int .i64 t103, .int .i64 t104, .int .i64 t105, .int .i64 0]) ?_ 4 _ rfl; (with_reducible repeat (first | refine blk_drewN ?_ _ | refine blk_drew ?_ | refine blk_alloc ?_ _)); refine blk_put (cs := #[.int .i64 t102, .int .i64 t103, .int .i64 t104, .int .i64 0, .int .i64 0]) ?_ 3 _ rfl; (with_reducible repeat (first | refine blk_drewN ?_ _ | refine blk_drew ?_ | refine blk_alloc ?_ _)); refine blk_put (cs := #[.int .i64 t102, .int .i64 t103, .int .i64 0, .int .i64 0, .int .i64 0]) ?_ 2 _ rfl; (with_reducible repeat (first | refine blk_drewN ?_ _ | refine blk_drew ?_ | refine blk_alloc ?_ _)); refine blk_put (cs := #[.int .i64 t102, .int .i64 0, .int .i64 0, .int .i64 0, .int .i64 0]) ?_ 1 _ rfl; (with_reducible repeat (first | refine blk_drewN ?_ _ | refine blk_drew ?_ | refine blk_alloc ?_ _)); refine blk_put (cs := #[.int .i64 0, .int .i64 0, .int .i64 0, .int .i64 0, .int .i64 0]) ?_ 0 _ rfl; (with_reducible repeat (first | refine blk_drewN ?_ _ | refine blk_drew ?_ | refine blk_alloc ?_ _)); exact BK107.out) hb); have n3_ := Aside0.mk (below_step (by repeat (first | (with_reducible first | exact HB.out | apply below_alloc | apply pw_below_drewN | apply below_drew1 | refine below_set ?_ GE101.out | refine below_set ?_ GE107.out) | exact HB.out)) hb); clear BK101; clear BK107; clear HB; have HO110 := n0_; have BK101 := n1_; have BK107 := n2_; have HB := n3_; clear n0_ n1_ n2_ n3_; clear hb ho15; obtain ⟨Ao16, co16, eo16⟩ := Kd.R_slice HO110.out; subst eo16) | ((with_reducible refine gate_callee (f := 92) rfl ?_); refine gl_ (some 9) Tryz.func92 #[.slice Ao16 y108.length co16, .func (.func 101) #[] #[]] ?_; (with_reducible refine (api_Errno_92__market_checkTotal.calls k _ _ y108 () t111 _ ?side1 ?side2 A3.out).mono ?_); (case side1 => repeat (first | exact (Kd.R_reads' HO110.out).2.2 | (with_reducible refine Kd.C_alloc ?_ _) | (with_reducible refine Kd.C_drewN ?_ _) | (with_reducible refine Kd.C_drew ?_))); (case side2 => exact (Kd.R_reads' HO110.out).2.1); rintro e w17 ⟨v112, rfl, ho0, hb⟩; refine ⟨_, rfl, ?_⟩; have n0_ := Aside0.mk (Kd.R_below (rs_ HO110.out) hb); have n1_ := Aside0.mk (Kd.R_lower ho0 (below_size (by repeat (first | (with_reducible first | exact HB.out | apply below_alloc | apply pw_below_drewN | apply below_drew1 | refine below_set ?_ GE101.out | refine below_set ?_ GE107.out) | exact HB.out)))); have n2_ := Aside0.mk (blk_below (g := gb101) (o := .cells #[.int .i64 a0_0, .int .i64 a0_1, .int .i64 a0_2, .int .i64 a0_3, .int .i64 a0_4] 86 (0, 0)) (bs_ BK101.out) hb); have n3_ := Aside0.mk (blk_below (g := gb107) (o := .cells #[.int .i64 t102, .int .i64 t103, .int .i64 t104, .int .i64 t105, .int .i64 t106] 183 (0, 0)) (bs_ BK107.out) hb); have n4_ := Aside0.mk (below_step (by repeat (first | (with_reducible first | exact HB.out | apply below_alloc | apply pw_below_drewN | apply below_drew1 | refine below_set ?_ GE101.out | refine below_set ?_ GE107.out) | exact HB.out)) hb); clear HO110; clear BK101; clear BK107; clear HB; have HO110 := n0_; have HO113 := n1_; have BK101 := n2_; have BK107 := n3_; have HB := n4_; clear n0_ n1_ n2_ n3_ n4_; (try clear hb); (try clear hb2); (try clear hk); (try clear hi); (try clear ho0); obtain ⟨Ao18, co18, eo18⟩ := Kd.R_slice HO113.out; subst eo18) | ((with_reducible refine gate_callee (f := 85) rfl ?_); refine gl_ (some 10) Tryz.func85 #[.slice Ao18 t111.length co18] ?_; (with_reducible refine (market_first.calls k _ _ t111 t114 _ ?side1 ?side2 A4.out).mono ?_); (case side1 => repeat (first | exact (Kd.R_reads' HO113.out).2.2 | (with_reducible refine Kd.C_alloc ?_ _) | (with_reducible refine Kd.C_drewN ?_ _) | (with_reducible refine Kd.C_drew ?_))); (case side2 => exact (Kd.R_reads' HO113.out).2.1); rintro e w' ⟨rfl, ⟨nd, rfl⟩⟩; refine ⟨_, rfl, ?_⟩; (try (rw [drewN_self w17]; generalize hq_ : World.drewN w17 _ = w17; have n0_ : Aside0 (Kd.R (Kd.int .i64) 183 w17 w.heap.size (fun _ => True) (.slice Ao16 y108.length co16) y108) := ⟨by rw [← hq_]; exact (rs_ HO110.out)⟩; have n1_ : Aside0 (Kd.R (Kd.int .i64) 28 w17 w.heap.size (fun _ => True) (.slice Ao18 t111.length co18) t111) := ⟨by rw [← hq_]; exact (rs_ HO113.out)⟩; have n2_ : Aside0 (w17.heap[gb101]? = some (.cells #[.int .i64 a0_0, .int .i64 a0_1, .int .i64 a0_2, .int .i64 a0_3, .int .i64 a0_4] 86 (0, 0))) := ⟨by rw [← hq_]; exact (bs_ BK101.out)⟩; have n3_ : Aside0 (w17.heap[gb107]? = some (.cells #[.int .i64 t102, .int .i64 t103, .int .i64 t104, .int .i64 t105, .int .i64 t106] 183 (0, 0))) := ⟨by rw [← hq_]; exact (bs_ BK107.out)⟩; have n4_ : Aside0 (Below w.heap.size w w17) := ⟨by rw [← hq_]; exact (by repeat (first | (with_reducible first | exact HB.out | apply below_alloc | apply pw_below_drewN | apply below_drew1 | refine below_set ?_ GE101.out | refine below_set ?_ GE107.out) | exact HB.out))⟩; clear HO110 HO113 BK101 BK107 HB hq_; have HO110 := n0_; have HO113 := n1_; have BK101 := n2_; have BK107 := n3_; have HB := n4_; clear n0_ n1_ n2_ n3_ n4_)); have hcz19_0 : w17.cell? ⟨gb101, 0, none⟩ = some (.int .i64 a0_0) := (blk_cell BK101.out 0).trans rfl; have hcz19_1 : w17.cell? ⟨gb101, 1, none⟩ = some (.int .i64 a0_1) := (blk_cell BK101.out 1).trans rfl; have hcz19_2 : w17.cell? ⟨gb101, 2, none⟩ = some (.int .i64 a0_2) := (blk_cell BK101.out 2).trans rfl; have hcz19_3 : w17.cell? ⟨gb101, 3, none⟩ = some (.int .i64 a0_3) := (blk_cell BK101.out 3).trans rfl; have hcz19_4 : w17.cell? ⟨gb101, 4, none⟩ = some (.int .i64 a0_4) := (blk_cell BK101.out 4).trans rfl; have hfz19_0 := blk_frozen BK101.out 0; have hfz19_1 := blk_frozen BK101.out 1; have hfz19_2 := blk_frozen BK101.out 2; have hfz19_3 := blk_frozen BK101.out 3; have hfz19_4 := blk_frozen BK101.out 4) | ((with_reducible refine gate_dst (N := 5) rfl ?_); refine box_event ?hg (N := 5) ?hd (cs := #[.int .i64 0, .int .i64 0, .int .i64 0, .int .i64 0, .int .i64 0]) (t := 86) ?hr ?_; (case hd => rfl); (case hg => rfl); (case hr => first | (go_simp; done) | (go_simp; rfl)); intro gb115 hg w20 hbox hb; have n0_ := Aside0.mk (Kd.R_below (rs_ HO110.out) hb); have n1_ := Aside0.mk (Kd.R_below (rs_ HO113.out) hb); have n2_ := Aside0.mk (blk_below (g := gb101) (o := .cells #[.int .i64 a0_0, .int .i64 a0_1, .int .i64 a0_2, .int .i64 a0_3, .int .i64 a0_4] 86 (0, 0)) (bs_ BK101.out) hb); have n3_ := Aside0.mk (blk_below (g := gb107) (o := .cells #[.int .i64 t102, .int .i64 t103, .int .i64 t104, .int .i64 t105, .int .i64 t106] 183 (0, 0)) (bs_ BK107.out) hb); have n4_ := Aside0.mk (below_step (by repeat (first | (with_reducible first | exact HB.out | apply below_alloc | apply pw_below_drewN | apply below_drew1 | refine below_set ?_ GE101.out | refine below_set ?_ GE107.out) | exact HB.out)) hb); have n5_ := Aside0.mk (hbox); have n6_ := Aside0.mk ((by rw [hg]; exact (below_size (by repeat (first | (with_reducible first | exact HB.out | apply below_alloc | apply pw_below_drewN | apply below_drew1 | refine below_set ?_ GE101.out | refine below_set ?_ GE107.out) | exact HB.out))) : w.heap.size ≤ gb115)); have n7_ := Aside0.mk ((by rw [hg]; exact (below_size (by repeat (first | (with_reducible first | exact HB.out | apply below_alloc | apply pw_below_drewN | apply below_drew1 | refine below_set ?_ GE101.out | refine below_set ?_ GE107.out) | exact HB.out))) : w.heap.size ≤ gb115)); have n8_ := Aside0.mk ((by rw [hg]; exact Nat.ne_of_lt (blk_lt (g := gb101) (o := .cells #[.int .i64 a0_0, .int .i64 a0_1, .int .i64 a0_2, .int .i64 a0_3, .int .i64 a0_4] 86 (0, 0)) (bs_ BK101.out)) : gb101 ≠ gb115)); have n9_ := Aside0.mk ((by rw [hg]; exact Nat.ne_of_gt (blk_lt (g := gb101) (o := .cells #[.int .i64 a0_0, .int .i64 a0_1, .int .i64 a0_2, .int .i64 a0_3, .int .i64 a0_4] 86 (0, 0)) (bs_ BK101.out)) : gb115 ≠ gb101)); have n10_ := Aside0.mk ((by rw [hg]; exact Nat.ne_of_lt (blk_lt (g := gb107) (o := .cells #[.int .i64 t102, .int .i64 t103, .int .i64 t104, .int .i64 t105, .int .i64 t106] 183 (0, 0)) (bs_ BK107.out)) : gb107 ≠ gb115)); have n11_ := Aside0.mk ((by rw [hg]; exact Nat.ne_of_gt (blk_lt (g := gb107) (o := .cells #[.int .i64 t102, .int .i64 t103, .int .i64 t104, .int .i64 t105, .int .i64 t106] 183 (0, 0)) (bs_ BK107.out)) : gb115 ≠ gb107)); clear HO110; clear HO113; clear BK101; clear BK107; clear HB; have HO110 := n0_; have HO113 := n1_; have BK101 := n2_; have BK107 := n3_; have HB := n4_; have BK115 := n5_; have GW115 := n6_; have GE115 := n7_; have NB101_115 := n8_; have NB115_101 := n9_; have NB107_115 := n10_; have NB115_107 := n11_; clear n0_ n1_ n2_ n3_ n4_ n5_ n6_ n7_ n8_ n9_ n10_ n11_; clear hb hbox hg; have hnb21 := NB115_101.out; have hnc21 := NB101_115.out; have hnb22 := NB115_107.out; have hnc22 := NB107_115.out; have hcz23_0 : w20.cell? ⟨gb115, 0, none⟩ = some (.int .i64 0) := (blk_cell BK115.out 0).trans rfl; have hcz23_1 : w20.cell? ⟨gb115, 1, none⟩ = some (.int .i64 0) := (blk_cell BK115.out 1).trans rfl; have hcz23_2 : w20.cell? ⟨gb115, 2, none⟩ = some (.int .i64 0) := (blk_cell BK115.out 2).trans rfl; have hcz23_3 : w20.cell? ⟨gb115, 3, none⟩ = some (.int .i64 0) := (blk_cell BK115.out 3).trans rfl; have hcz23_4 : w20.cell? ⟨gb115, 4, none⟩ = some (.int .i64 0) := (blk_cell BK115.out 4).trans rfl; have hfz23_0 := blk_frozen BK115.out 0; have hfz23_1 := blk_frozen BK115.out 1; have hfz23_2 := blk_frozen BK115.out 2; have hfz23_3 := blk_frozen BK115.out 3; have hfz23_4 := blk_frozen BK115.out 4; have hcz24_0 : w20.cell? ⟨gb101, 0, none⟩ = some (.int .i64 a0_0) := (blk_cell BK101.out 0).trans rfl; have hcz24_1 : w20.cell? ⟨gb101, 1, none⟩ = some (.int .i64 a0_1) := (blk_cell BK101.out 1).trans rfl; have hcz24_2 : w20.cell? ⟨gb101, 2, none⟩ = some (.int .i64 a0_2) := (blk_cell BK101.out 2).trans rfl; have hcz24_3 : w20.cell? ⟨gb101, 3, none⟩ = some (.int .i64 a0_3) := (blk_cell BK101.out 3).trans rfl; have hcz24_4 : w20.cell? ⟨gb101, 4, none⟩ = some (.int .i64 a0_4) := (blk_cell BK101.out 4).trans rfl; have hfz24_0 := blk_frozen BK101.out 0; have hfz24_1 := blk_frozen BK101.out 1; have hfz24_2 := blk_frozen BK101.out 2; have hfz24_3 := blk_frozen BK101.out 3; have hfz24_4 := blk_frozen BK101.out 4))
  have n0_ : Aside0 (Kd.R (Kd.int .i64) 183 ((((((w20.setCell ⟨gb115, 0, none⟩ (.int .i64 a0_0)).setCell ⟨gb115, 1, none⟩ (.int .i64 a0_1)).setCell ⟨gb115, 2, none⟩ (.int .i64 a0_2)).setCell ⟨gb115, 3, none⟩ (.int .i64 a0_3)).setCell ⟨gb115, 4, none⟩ (.int .i64 a0_4)).setCell ⟨gb115, 1, none⟩ (.int .i64 (wrap64 ((wrap64 (a0_2 + a0_3)) + a0_4)))) w.heap.size (fun _ => True) (.slice Ao16 y108.length co16) y108) := ⟨by (with_reducible repeat (first | apply Kd.R_alloc | apply Kd.R_drewN | apply Kd.R_drew)); exact Kd.R_mono (Kd.R_far (p := ⟨gb115, 1, none⟩) (Kd.R_far (p := ⟨gb115, 4, none⟩) (Kd.R_far (p := ⟨gb115, 3, none⟩) (Kd.R_far (p := ⟨gb115, 2, none⟩) (Kd.R_far (p := ⟨gb115, 1, none⟩) (Kd.R_far (p := ⟨gb115, 0, none⟩) (Kd.R_types HO110.out BK115.out (by decide)) (fun _ hk => hk.2) (.int .i64 a0_0)) (fun _ hk => hk.2) (.int .i64 a0_1)) (fun _ hk => hk.2) (.int .i64 a0_2)) (fun _ hk => hk.2) (.int .i64 a0_3)) (fun _ hk => hk.2) (.int .i64 a0_4)) (fun _ hk => hk.2) (.int .i64 (wrap64 ((wrap64 (a0_2 + a0_3)) + a0_4)))) (fun _ hk => trivial)⟩
  have n1_ : Aside0 (Kd.R (Kd.int .i64) 28 ((((((w20.setCell ⟨gb115, 0, none⟩ (.int .i64 a0_0)).setCell ⟨gb115, 1, none⟩ (.int .i64 a0_1)).setCell ⟨gb115, 2, none⟩ (.int .i64 a0_2)).setCell ⟨gb115, 3, none⟩ (.int .i64 a0_3)).setCell ⟨gb115, 4, none⟩ (.int .i64 a0_4)).setCell ⟨gb115, 1, none⟩ (.int .i64 (wrap64 ((wrap64 (a0_2 + a0_3)) + a0_4)))) w.heap.size (fun _ => True) (.slice Ao18 t111.length co18) t111) := ⟨by (with_reducible repeat (first | apply Kd.R_alloc | apply Kd.R_drewN | apply Kd.R_drew)); exact Kd.R_mono (Kd.R_far (p := ⟨gb115, 1, none⟩) (Kd.R_far (p := ⟨gb115, 4, none⟩) (Kd.R_far (p := ⟨gb115, 3, none⟩) (Kd.R_far (p := ⟨gb115, 2, none⟩) (Kd.R_far (p := ⟨gb115, 1, none⟩) (Kd.R_far (p := ⟨gb115, 0, none⟩) (Kd.R_types HO113.out BK115.out (by decide)) (fun _ hk => hk.2) (.int .i64 a0_0)) (fun _ hk => hk.2) (.int .i64 a0_1)) (fun _ hk => hk.2) (.int .i64 a0_2)) (fun _ hk => hk.2) (.int .i64 a0_3)) (fun _ hk => hk.2) (.int .i64 a0_4)) (fun _ hk => hk.2) (.int .i64 (wrap64 ((wrap64 (a0_2 + a0_3)) + a0_4)))) (fun _ hk => trivial)⟩
  have n2_ : Aside0 (((((((w20.setCell ⟨gb115, 0, none⟩ (.int .i64 a0_0)).setCell ⟨gb115, 1, none⟩ (.int .i64 a0_1)).setCell ⟨gb115, 2, none⟩ (.int .i64 a0_2)).setCell ⟨gb115, 3, none⟩ (.int .i64 a0_3)).setCell ⟨gb115, 4, none⟩ (.int .i64 a0_4)).setCell ⟨gb115, 1, none⟩ (.int .i64 (wrap64 ((wrap64 (a0_2 + a0_3)) + a0_4)))).heap[gb101]? = some (.cells #[.int .i64 a0_0, .int .i64 a0_1, .int .i64 a0_2, .int .i64 a0_3, .int .i64 a0_4] 86 (0, 0))) := ⟨by (with_reducible repeat (first | refine blk_drewN ?_ _ | refine blk_drew ?_ | refine blk_alloc ?_ _)); refine blk_far ?_ NB101_115.out _; (with_reducible repeat (first | refine blk_drewN ?_ _ | refine blk_drew ?_ | refine blk_alloc ?_ _)); refine blk_far ?_ NB101_115.out _; (with_reducible repeat (first | refine blk_drewN ?_ _ | refine blk_drew ?_ | refine blk_alloc ?_ _)); refine blk_far ?_ NB101_115.out _; (with_reducible repeat (first | refine blk_drewN ?_ _ | refine blk_drew ?_ | refine blk_alloc ?_ _)); refine blk_far ?_ NB101_115.out _; (with_reducible repeat (first | refine blk_drewN ?_ _ | refine blk_drew ?_ | refine blk_alloc ?_ _)); refine blk_far ?_ NB101_115.out _; (with_reducible repeat (first | refine blk_drewN ?_ _ | refine blk_drew ?_ | refine blk_alloc ?_ _)); refine blk_far ?_ NB101_115.out _; (with_reducible repeat (first | refine blk_drewN ?_ _ | refine blk_drew ?_ | refine blk_alloc ?_ _)); exact BK101.out⟩
  have n3_ : Aside0 (((((((w20.setCell ⟨gb115, 0, none⟩ (.int .i64 a0_0)).setCell ⟨gb115, 1, none⟩ (.int .i64 a0_1)).setCell ⟨gb115, 2, none⟩ (.int .i64 a0_2)).setCell ⟨gb115, 3, none⟩ (.int .i64 a0_3)).setCell ⟨gb115, 4, none⟩ (.int .i64 a0_4)).setCell ⟨gb115, 1, none⟩ (.int .i64 (wrap64 ((wrap64 (a0_2 + a0_3)) + a0_4)))).heap[gb107]? = some (.cells #[.int .i64 t102, .int .i64 t103, .int .i64 t104, .int .i64 t105, .int .i64 t106] 183 (0, 0))) := ⟨by (with_reducible repeat (first | refine blk_drewN ?_ _ | refine blk_drew ?_ | refine blk_alloc ?_ _)); refine blk_far ?_ NB107_115.out _; (with_reducible repeat (first | refine blk_drewN ?_ _ | refine blk_drew ?_ | refine blk_alloc ?_ _)); refine blk_far ?_ NB107_115.out _; (with_reducible repeat (first | refine blk_drewN ?_ _ | refine blk_drew ?_ | refine blk_alloc ?_ _)); refine blk_far ?_ NB107_115.out _; (with_reducible repeat (first | refine blk_drewN ?_ _ | refine blk_drew ?_ | refine blk_alloc ?_ _)); refine blk_far ?_ NB107_115.out _; (with_reducible repeat (first | refine blk_drewN ?_ _ | refine blk_drew ?_ | refine blk_alloc ?_ _)); refine blk_far ?_ NB107_115.out _; (with_reducible repeat (first | refine blk_drewN ?_ _ | refine blk_drew ?_ | refine blk_alloc ?_ _)); refine blk_far ?_ NB107_115.out _; (with_reducible repeat (first | refine blk_drewN ?_ _ | refine blk_drew ?_ | refine blk_alloc ?_ _)); exact BK107.out⟩
  have n4_ : Aside0 (((((((w20.setCell ⟨gb115, 0, none⟩ (.int .i64 a0_0)).setCell ⟨gb115, 1, none⟩ (.int .i64 a0_1)).setCell ⟨gb115, 2, none⟩ (.int .i64 a0_2)).setCell ⟨gb115, 3, none⟩ (.int .i64 a0_3)).setCell ⟨gb115, 4, none⟩ (.int .i64 a0_4)).setCell ⟨gb115, 1, none⟩ (.int .i64 (wrap64 ((wrap64 (a0_2 + a0_3)) + a0_4)))).heap[gb115]? = some (.cells #[.int .i64 a0_0, .int .i64 (wrap64 ((wrap64 (a0_2 + a0_3)) + a0_4)), .int .i64 a0_2, .int .i64 a0_3, .int .i64 a0_4] 86 (0, 0))) := ⟨by (with_reducible repeat (first | refine blk_drewN ?_ _ | refine blk_drew ?_ | refine blk_alloc ?_ _)); refine blk_put (cs := #[.int .i64 a0_0, .int .i64 a0_1, .int .i64 a0_2, .int .i64 a0_3, .int .i64 a0_4]) ?_ 1 _ rfl; (with_reducible repeat (first | refine blk_drewN ?_ _ | refine blk_drew ?_ | refine blk_alloc ?_ _)); refine blk_put (cs := #[.int .i64 a0_0, .int .i64 a0_1, .int .i64 a0_2, .int .i64 a0_3, .int .i64 0]) ?_ 4 _ rfl; (with_reducible repeat (first | refine blk_drewN ?_ _ | refine blk_drew ?_ | refine blk_alloc ?_ _)); refine blk_put (cs := #[.int .i64 a0_0, .int .i64 a0_1, .int .i64 a0_2, .int .i64 0, .int .i64 0]) ?_ 3 _ rfl; (with_reducible repeat (first | refine blk_drewN ?_ _ | refine blk_drew ?_ | refine blk_alloc ?_ _)); refine blk_put (cs := #[.int .i64 a0_0, .int .i64 a0_1, .int .i64 0, .int .i64 0, .int .i64 0]) ?_ 2 _ rfl; (with_reducible repeat (first | refine blk_drewN ?_ _ | refine blk_drew ?_ | refine blk_alloc ?_ _)); refine blk_put (cs := #[.int .i64 a0_0, .int .i64 0, .int .i64 0, .int .i64 0, .int .i64 0]) ?_ 1 _ rfl; (with_reducible repeat (first | refine blk_drewN ?_ _ | refine blk_drew ?_ | refine blk_alloc ?_ _)); refine blk_put (cs := #[.int .i64 0, .int .i64 0, .int .i64 0, .int .i64 0, .int .i64 0]) ?_ 0 _ rfl; (with_reducible repeat (first | refine blk_drewN ?_ _ | refine blk_drew ?_ | refine blk_alloc ?_ _)); exact BK115.out⟩
  have n5_ : Aside0 (Below w.heap.size w ((((((w20.setCell ⟨gb115, 0, none⟩ (.int .i64 a0_0)).setCell ⟨gb115, 1, none⟩ (.int .i64 a0_1)).setCell ⟨gb115, 2, none⟩ (.int .i64 a0_2)).setCell ⟨gb115, 3, none⟩ (.int .i64 a0_3)).setCell ⟨gb115, 4, none⟩ (.int .i64 a0_4)).setCell ⟨gb115, 1, none⟩ (.int .i64 (wrap64 ((wrap64 (a0_2 + a0_3)) + a0_4))))) := ⟨by repeat (first | (with_reducible first | exact HB.out | apply below_alloc | apply pw_below_drewN | apply below_drew1 | refine below_set ?_ GE101.out | refine below_set ?_ GE107.out | refine below_set ?_ GE115.out) | exact HB.out)⟩
  (try clear HO110)
  (try clear HO113)
  (try clear BK101)
  (try clear BK107)
  (try clear BK115)
  (try clear HB)
  generalize ((((((w20.setCell ⟨gb115, 0, none⟩ (.int .i64 a0_0)).setCell ⟨gb115, 1, none⟩ (.int .i64 a0_1)).setCell ⟨gb115, 2, none⟩ (.int .i64 a0_2)).setCell ⟨gb115, 3, none⟩ (.int .i64 a0_3)).setCell ⟨gb115, 4, none⟩ (.int .i64 a0_4)).setCell ⟨gb115, 1, none⟩ (.int .i64 (wrap64 ((wrap64 (a0_2 + a0_3)) + a0_4)))) = w25 at n0_ n1_ n2_ n3_ n4_ n5_ ⊢
  have HO110 := n0_
  have HO113 := n1_
  have BK101 := n2_
  have BK107 := n3_
  have BK115 := n4_
  have HB := n5_
  clear n0_ n1_ n2_ n3_ n4_ n5_
  have n0_ := Aside0.mk (Kd.R_drew HO110.out)
  have n1_ := Aside0.mk (Kd.R_drew HO113.out)
  have n2_ := Aside0.mk (blk_drew BK101.out)
  have n3_ := Aside0.mk (blk_drew BK107.out)
  have n4_ := Aside0.mk (blk_drew BK115.out)
  have n5_ := Aside0.mk (below_drew1 HB.out)
  clear HO110
  clear HO113
  clear BK101
  clear BK107
  clear BK115
  clear HB
  have HO110 := n0_
  have HO113 := n1_
  have BK101 := n2_
  have BK107 := n3_
  have BK115 := n4_
  have HB := n5_
  clear n0_ n1_ n2_ n3_ n4_ n5_
  refine start_ (n := 6) (S := fun w' => w'.cell? ⟨gb115, 0, none⟩ = some (.int .i64 a0_0) ∧ w'.cell? ⟨gb115, 1, none⟩ = some (.int .i64 (wrap64 ((wrap64 (a0_2 + a0_3)) + a0_4))) ∧ w'.cell? ⟨gb115, 2, none⟩ = some (.int .i64 a0_2) ∧ w'.cell? ⟨gb115, 3, none⟩ = some (.int .i64 a0_3) ∧ w'.cell? ⟨gb115, 4, none⟩ = some (.int .i64 a0_4) ∧ w'.cell? ⟨gb107, 0, none⟩ = some (.int .i64 t102) ∧ w'.cell? ⟨gb107, 1, none⟩ = some (.int .i64 t103) ∧ w'.cell? ⟨gb107, 2, none⟩ = some (.int .i64 t104) ∧ w'.cell? ⟨gb107, 3, none⟩ = some (.int .i64 t105) ∧ w'.cell? ⟨gb107, 4, none⟩ = some (.int .i64 t106)) (ds := []) #[false, false, false, false, false, false] (by kernel_rfl) rfl rfl ⟨(blk_cell BK115.out 0).trans rfl, (blk_cell BK115.out 1).trans rfl, (blk_cell BK115.out 2).trans rfl, (blk_cell BK115.out 3).trans rfl, (blk_cell BK115.out 4).trans rfl, (blk_cell BK107.out 0).trans rfl, (blk_cell BK107.out 1).trans rfl, (blk_cell BK107.out 2).trans rfl, (blk_cell BK107.out 3).trans rfl, (blk_cell BK107.out 4).trans rfl⟩ (fun hHeld => ?_)
  generalize w25.drew = w26 at HO110 HO113 BK101 BK107 BK115 HB hHeld ⊢
  refine take_ (i := 0) (N := some 24) (v := ?_) (a' := ?_) #[true, false, false, false, false, false] rfl rfl (by kernel_rfl) (fun _ _ _ h => h) (Or.inl ⟨by rfl, ?_⟩) hHeld ?_ ?_
  rotate_left
  ·rintro w' ⟨s0, s1, s2, s3, s4, s5, s6, s7, s8, s9⟩
   go_simp
   with_reducible rfl
  rotate_left
  ·simp only [Act.put, List.setIfInBounds_toArray, List.set_cons_zero, List.set_cons_succ, i64_w, i32_w]
   rfl
  refine take_ (i := 2) (N := some 26) (v := ?_) (a' := ?_) #[true, false, true, false, false, false] rfl rfl (by kernel_rfl) (fun _ _ _ h => h) (Or.inl ⟨by rfl, ?_⟩) hHeld ?_ ?_
  rotate_left
  ·rintro w' ⟨s0, s1, s2, s3, s4, s5, s6, s7, s8, s9⟩
   go_simp
   with_reducible rfl
  rotate_left
  ·simp only [Act.put, List.setIfInBounds_toArray, List.set_cons_zero, List.set_cons_succ, i64_w, i32_w]
   rfl
  refine one_ (i := 1) (N := some 25) #[true, true, true, false, false, false] rfl rfl (by kernel_rfl) (by decide) (fun K hK => ?_)
  refine goes_ Tryz.func123 (by kernel_rfl) rfl #[.agg #[.int .i64 a0_0, .int .i64 (wrap64 ((wrap64 (a0_2 + a0_3)) + a0_4)), .int .i64 a0_2, .int .i64 a0_3, .int .i64 a0_4]] (by rfl) rfl rfl (by (try simp only [List.map_toArray, List.map_cons, List.map_nil]); first | done | rfl | (simp only [List.length_drop, List.length_take]; rfl)) ?_
  with_reducible refine (market_Quarter_numbers.calls a0_0 (wrap64 ((wrap64 (a0_2 + a0_3)) + a0_4)) a0_2 a0_3 a0_4 t116 t117 t118 t119 t120 _ A6.out).mono ?_
  rintro e w27 ⟨rfl, hb⟩
  refine ⟨_, rfl, ?_⟩
  have n0_ := Aside0.mk (Kd.R_below (rs_ HO110.out) hb)
  have n1_ := Aside0.mk (Kd.R_below (rs_ HO113.out) hb)
  have n2_ := Aside0.mk (blk_below (g := gb101) (o := .cells #[.int .i64 a0_0, .int .i64 a0_1, .int .i64 a0_2, .int .i64 a0_3, .int .i64 a0_4] 86 (0, 0)) (bs_ BK101.out) hb)
  have n3_ := Aside0.mk (blk_below (g := gb107) (o := .cells #[.int .i64 t102, .int .i64 t103, .int .i64 t104, .int .i64 t105, .int .i64 t106] 183 (0, 0)) (bs_ BK107.out) hb)
  have n4_ := Aside0.mk (blk_below (g := gb115) (o := .cells #[.int .i64 a0_0, .int .i64 (wrap64 ((wrap64 (a0_2 + a0_3)) + a0_4)), .int .i64 a0_2, .int .i64 a0_3, .int .i64 a0_4] 86 (0, 0)) (bs_ BK115.out) hb)
  have n5_ := Aside0.mk (below_step (by repeat (first | (with_reducible first | exact HB.out | apply below_alloc | apply pw_below_drewN | apply below_drew1 | refine below_set ?_ GE101.out | refine below_set ?_ GE107.out | refine below_set ?_ GE115.out) | exact HB.out)) hb)
  clear HO110
  clear HO113
  clear BK101
  clear BK107
  clear BK115
  clear HB
  have HO110 := n0_
  have HO113 := n1_
  have BK101 := n2_
  have BK107 := n3_
  have BK115 := n4_
  have HB := n5_
  clear n0_ n1_ n2_ n3_ n4_ n5_
  (try clear hb)
  (try clear hb2)
  (try clear hk)
  (try clear hi)
  refine hK.out _ _ ⟨(blk_cell BK115.out 0).trans rfl, (blk_cell BK115.out 1).trans rfl, (blk_cell BK115.out 2).trans rfl, (blk_cell BK115.out 3).trans rfl, (blk_cell BK115.out 4).trans rfl, (blk_cell BK107.out 0).trans rfl, (blk_cell BK107.out 1).trans rfl, (blk_cell BK107.out 2).trans rfl, (blk_cell BK107.out 3).trans rfl, (blk_cell BK107.out 4).trans rfl⟩ (fun hHeld => ?_)
  clear hK K
  refine norm_ (a' := ?_) ?_ ?_
  rotate_left
  ·show Act.put _ (some 25) _ = _
   simp only [Act.put, List.setIfInBounds_toArray, List.set_cons_zero, List.set_cons_succ, i64_w, i32_w]
   rfl
  refine pure_ (i := 3) (N := some 27) (v := ?_) (a' := ?_) #[true, true, true, true, false, false] rfl rfl (by kernel_rfl) (fun _ _ _ h => h) (Or.inl ⟨by rfl, ?_⟩) ?_ ?_
  rotate_left
  ·intro w'
   go_simp
   with_reducible rfl
  rotate_left
  ·simp only [Act.put, List.setIfInBounds_toArray, List.set_cons_zero, List.set_cons_succ, i64_w, i32_w]
   rfl
  refine one_ (i := 4) (N := some 28) #[true, true, true, true, true, false] rfl rfl (by kernel_rfl) (by decide) (fun K hK => ?_)
  refine goes_ Tryz.func90 (by kernel_rfl) rfl #[.bool (!(t116 == t102) || (!(t117 == t103) || (!(t118 == t104) || (!(t119 == t105) || (!(t120 == t106)))))), .int .i64 30] (by rfl) rfl rfl (by (try simp only [List.map_toArray, List.map_cons, List.map_nil]); first | done | rfl | (simp only [List.length_drop, List.length_take]; rfl)) ?_
  with_reducible refine (market_when.calls (!(t116 == t102) || (!(t117 == t103) || (!(t118 == t104) || (!(t119 == t105) || (!(t120 == t106)))))) 30 t121 _ A7.out).mono ?_
  rintro e w' ⟨rfl, ⟨nd, rfl⟩⟩
  refine ⟨_, rfl, ?_⟩
  refine hK.out _ _ ⟨(blk_cell BK115.out 0).trans rfl, (blk_cell BK115.out 1).trans rfl, (blk_cell BK115.out 2).trans rfl, (blk_cell BK115.out 3).trans rfl, (blk_cell BK115.out 4).trans rfl, (blk_cell BK107.out 0).trans rfl, (blk_cell BK107.out 1).trans rfl, (blk_cell BK107.out 2).trans rfl, (blk_cell BK107.out 3).trans rfl, (blk_cell BK107.out 4).trans rfl⟩ (fun hHeld => ?_)
  clear hK K
  refine norm_ (a' := ?_) ?_ ?_
  rotate_left
  ·show Act.put _ (some 28) _ = _
   simp only [Act.put, List.setIfInBounds_toArray, List.set_cons_zero, List.set_cons_succ, i64_w, i32_w]
   rfl
  refine pure_ (i := 5) (N := some 2) (v := ?_) (a' := ?_) #[true, true, true, true, true, true] rfl rfl (by kernel_rfl) (fun _ _ _ h => h) (Or.inl ⟨by rfl, ?_⟩) ?_ ?_
  rotate_left
  ·intro w'
   go_simp
   with_reducible rfl
  rotate_left
  ·simp only [Act.put, List.setIfInBounds_toArray, List.set_cons_zero, List.set_cons_succ, i64_w, i32_w]
   rfl
  refine done_ (by kernel_rfl) ?_
  try go_wp2
  go_ret
  exact ⟨by first | rfl | (simp [errW_none, errW_some] <;> rfl) | (simp [*, errW_none, errW_some] <;> rfl), by repeat (first | (with_reducible first | exact HB.out | apply below_alloc | apply pw_below_drewN | apply below_drew1 | refine below_set ?_ GE101.out | refine below_set ?_ GE107.out | refine below_set ?_ GE115.out) | exact HB.out)⟩
 ·rw [if_neg c5] at H
  have c5b0 : (t114 == 0) = false := beq_eq_false_iff_ne.mpr c5
  have c5b1 : (t114 != 0) = true := bne_iff_ne.mpr c5
  obtain rfl := Option.some.inj H
  go_enter Tryz.func59, Tryz.ntmps59
  go_wp2_with (first | ((with_reducible refine gate_dst (N := 1) rfl ?_); refine box_event ?hg (N := 1) ?hd (cs := #[.int .i64 a0_0, .int .i64 a0_1, .int .i64 a0_2, .int .i64 a0_3, .int .i64 a0_4]) (t := 86) ?hr ?_; (case hd => rfl); (case hg => rfl); (case hr => first | (go_simp; done) | (go_simp; rfl)); intro gb101 hg w28 hbox hb; have n0_ := Aside0.mk (below_step (ws_ HB.out) hb); have n1_ := Aside0.mk (hbox); have n2_ := Aside0.mk ((by rw [hg]; exact (below_size (ws_ HB.out)) : w.heap.size ≤ gb101)); have n3_ := Aside0.mk ((by rw [hg]; exact (below_size (ws_ HB.out)) : w.heap.size ≤ gb101)); clear HB; have HB := n0_; have BK101 := n1_; have GW101 := n2_; have GE101 := n3_; clear n0_ n1_ n2_ n3_; clear hb hbox hg; have hcz29_0 : w28.cell? ⟨gb101, 0, none⟩ = some (.int .i64 a0_0) := (blk_cell BK101.out 0).trans rfl; have hcz29_1 : w28.cell? ⟨gb101, 1, none⟩ = some (.int .i64 a0_1) := (blk_cell BK101.out 1).trans rfl; have hcz29_2 : w28.cell? ⟨gb101, 2, none⟩ = some (.int .i64 a0_2) := (blk_cell BK101.out 2).trans rfl; have hcz29_3 : w28.cell? ⟨gb101, 3, none⟩ = some (.int .i64 a0_3) := (blk_cell BK101.out 3).trans rfl; have hcz29_4 : w28.cell? ⟨gb101, 4, none⟩ = some (.int .i64 a0_4) := (blk_cell BK101.out 4).trans rfl; have hfz29_0 := blk_frozen BK101.out 0; have hfz29_1 := blk_frozen BK101.out 1; have hfz29_2 := blk_frozen BK101.out 2; have hfz29_3 := blk_frozen BK101.out 3; have hfz29_4 := blk_frozen BK101.out 4) | ((with_reducible refine gate_callee (f := 123) rfl ?_); refine gl_ (some 7) Tryz.func123 #[.agg #[.int .i64 a0_0, .int .i64 a0_1, .int .i64 a0_2, .int .i64 a0_3, .int .i64 a0_4]] ?_; (with_reducible refine (market_Quarter_numbers.calls a0_0 a0_1 a0_2 a0_3 a0_4 t102 t103 t104 t105 t106 _ A2.out).mono ?_); rintro e w30 ⟨rfl, hb⟩; refine ⟨_, rfl, ?_⟩; have n0_ := Aside0.mk (blk_below (g := gb101) (o := .cells #[.int .i64 a0_0, .int .i64 a0_1, .int .i64 a0_2, .int .i64 a0_3, .int .i64 a0_4] 86 (0, 0)) (bs_ BK101.out) hb); have n1_ := Aside0.mk (below_step (wg_ HB.out GE101.out) hb); clear BK101; clear HB; have BK101 := n0_; have HB := n1_; clear n0_ n1_; (try clear hb); (try clear hb2); (try clear hk); (try clear hi)) | ((with_reducible refine gate_dst (N := 3) rfl ?_); refine box_event ?hg (N := 3) ?hd (cs := #[.int .i64 0, .int .i64 0, .int .i64 0, .int .i64 0, .int .i64 0]) (t := 183) ?hr ?_; (case hd => rfl); (case hg => rfl); (case hr => first | (go_simp; done) | (go_simp; rfl)); intro gb107 hg w31 hbox hb; have n0_ := Aside0.mk (blk_below (g := gb101) (o := .cells #[.int .i64 a0_0, .int .i64 a0_1, .int .i64 a0_2, .int .i64 a0_3, .int .i64 a0_4] 86 (0, 0)) (bs_ BK101.out) hb); have n1_ := Aside0.mk (below_step (wg_ HB.out GE101.out) hb); have n2_ := Aside0.mk (hbox); have n3_ := Aside0.mk ((by rw [hg]; exact (below_size (wg_ HB.out GE101.out)) : w.heap.size ≤ gb107)); have n4_ := Aside0.mk ((by rw [hg]; exact (below_size (wg_ HB.out GE101.out)) : w.heap.size ≤ gb107)); have n5_ := Aside0.mk ((by rw [hg]; exact Nat.ne_of_lt (blk_lt (g := gb101) (o := .cells #[.int .i64 a0_0, .int .i64 a0_1, .int .i64 a0_2, .int .i64 a0_3, .int .i64 a0_4] 86 (0, 0)) (bs_ BK101.out)) : gb101 ≠ gb107)); have n6_ := Aside0.mk ((by rw [hg]; exact Nat.ne_of_gt (blk_lt (g := gb101) (o := .cells #[.int .i64 a0_0, .int .i64 a0_1, .int .i64 a0_2, .int .i64 a0_3, .int .i64 a0_4] 86 (0, 0)) (bs_ BK101.out)) : gb107 ≠ gb101)); clear BK101; clear HB; have BK101 := n0_; have HB := n1_; have BK107 := n2_; have GW107 := n3_; have GE107 := n4_; have NB101_107 := n5_; have NB107_101 := n6_; clear n0_ n1_ n2_ n3_ n4_ n5_ n6_; clear hb hbox hg; have hnb32 := NB107_101.out; have hnc32 := NB101_107.out; have hcz33_0 : w31.cell? ⟨gb107, 0, none⟩ = some (.int .i64 0) := (blk_cell BK107.out 0).trans rfl; have hcz33_1 : w31.cell? ⟨gb107, 1, none⟩ = some (.int .i64 0) := (blk_cell BK107.out 1).trans rfl; have hcz33_2 : w31.cell? ⟨gb107, 2, none⟩ = some (.int .i64 0) := (blk_cell BK107.out 2).trans rfl; have hcz33_3 : w31.cell? ⟨gb107, 3, none⟩ = some (.int .i64 0) := (blk_cell BK107.out 3).trans rfl; have hcz33_4 : w31.cell? ⟨gb107, 4, none⟩ = some (.int .i64 0) := (blk_cell BK107.out 4).trans rfl; have hfz33_0 := blk_frozen BK107.out 0; have hfz33_1 := blk_frozen BK107.out 1; have hfz33_2 := blk_frozen BK107.out 2; have hfz33_3 := blk_frozen BK107.out 3; have hfz33_4 := blk_frozen BK107.out 4) | ((with_reducible refine gate_dst (N := 8) rfl ?_); refine arr_event (v := .slice (some ⟨gb107, 0, none⟩) 5 5) ?hg (N := some 8) ?hd ?hr ?_; (case hd => rfl); (case hg => rfl); (case hr => first | (go_simp; done) | (go_simp; rfl)); intro v109 w34 hv_ hw_; have hb := below_eq hw_; have ho35 := R_arr5 GE107.out (blk_below (g := gb107) (o := .cells #[.int .i64 t102, .int .i64 t103, .int .i64 t104, .int .i64 t105, .int .i64 t106] 183 (0, 0)) (by (with_reducible repeat (first | refine blk_drewN ?_ _ | refine blk_drew ?_ | refine blk_alloc ?_ _)); refine blk_put (cs := #[.int .i64 t102, .int .i64 t103, .int .i64 t104, .int .i64 t105, .int .i64 0]) ?_ 4 _ rfl; (with_reducible repeat (first | refine blk_drewN ?_ _ | refine blk_drew ?_ | refine blk_alloc ?_ _)); refine blk_put (cs := #[.int .i64 t102, .int .i64 t103, .int .i64 t104, .int .i64 0, .int .i64 0]) ?_ 3 _ rfl; (with_reducible repeat (first | refine blk_drewN ?_ _ | refine blk_drew ?_ | refine blk_alloc ?_ _)); refine blk_put (cs := #[.int .i64 t102, .int .i64 t103, .int .i64 0, .int .i64 0, .int .i64 0]) ?_ 2 _ rfl; (with_reducible repeat (first | refine blk_drewN ?_ _ | refine blk_drew ?_ | refine blk_alloc ?_ _)); refine blk_put (cs := #[.int .i64 t102, .int .i64 0, .int .i64 0, .int .i64 0, .int .i64 0]) ?_ 1 _ rfl; (with_reducible repeat (first | refine blk_drewN ?_ _ | refine blk_drew ?_ | refine blk_alloc ?_ _)); refine blk_put (cs := #[.int .i64 0, .int .i64 0, .int .i64 0, .int .i64 0, .int .i64 0]) ?_ 0 _ rfl; (with_reducible repeat (first | refine blk_drewN ?_ _ | refine blk_drew ?_ | refine blk_alloc ?_ _)); exact BK107.out) hb); rw [← hv_, ← Ny108.out] at ho35; clear hv_ hw_; have n0_ := Aside0.mk ho35; have n1_ := Aside0.mk (blk_below (g := gb101) (o := .cells #[.int .i64 a0_0, .int .i64 a0_1, .int .i64 a0_2, .int .i64 a0_3, .int .i64 a0_4] 86 (0, 0)) (by (with_reducible repeat (first | refine blk_drewN ?_ _ | refine blk_drew ?_ | refine blk_alloc ?_ _)); refine blk_far ?_ NB101_107.out _; (with_reducible repeat (first | refine blk_drewN ?_ _ | refine blk_drew ?_ | refine blk_alloc ?_ _)); refine blk_far ?_ NB101_107.out _; (with_reducible repeat (first | refine blk_drewN ?_ _ | refine blk_drew ?_ | refine blk_alloc ?_ _)); refine blk_far ?_ NB101_107.out _; (with_reducible repeat (first | refine blk_drewN ?_ _ | refine blk_drew ?_ | refine blk_alloc ?_ _)); refine blk_far ?_ NB101_107.out _; (with_reducible repeat (first | refine blk_drewN ?_ _ | refine blk_drew ?_ | refine blk_alloc ?_ _)); refine blk_far ?_ NB101_107.out _; (with_reducible repeat (first | refine blk_drewN ?_ _ | refine blk_drew ?_ | refine blk_alloc ?_ _)); exact BK101.out) hb); have n2_ := Aside0.mk (blk_below (g := gb107) (o := .cells #[.int .i64 t102, .int .i64 t103, .int .i64 t104, .int .i64 t105, .int .i64 t106] 183 (0, 0)) (by (with_reducible repeat (first | refine blk_drewN ?_ _ | refine blk_drew ?_ | refine blk_alloc ?_ _)); refine blk_put (cs := #[.int .i64 t102, .int .i64 t103, .int .i64 t104, .int .i64 t105, .int .i64 0]) ?_ 4 _ rfl; (with_reducible repeat (first | refine blk_drewN ?_ _ | refine blk_drew ?_ | refine blk_alloc ?_ _)); refine blk_put (cs := #[.int .i64 t102, .int .i64 t103, .int .i64 t104, .int .i64 0, .int .i64 0]) ?_ 3 _ rfl; (with_reducible repeat (first | refine blk_drewN ?_ _ | refine blk_drew ?_ | refine blk_alloc ?_ _)); refine blk_put (cs := #[.int .i64 t102, .int .i64 t103, .int .i64 0, .int .i64 0, .int .i64 0]) ?_ 2 _ rfl; (with_reducible repeat (first | refine blk_drewN ?_ _ | refine blk_drew ?_ | refine blk_alloc ?_ _)); refine blk_put (cs := #[.int .i64 t102, .int .i64 0, .int .i64 0, .int .i64 0, .int .i64 0]) ?_ 1 _ rfl; (with_reducible repeat (first | refine blk_drewN ?_ _ | refine blk_drew ?_ | refine blk_alloc ?_ _)); refine blk_put (cs := #[.int .i64 0, .int .i64 0, .int .i64 0, .int .i64 0, .int .i64 0]) ?_ 0 _ rfl; (with_reducible repeat (first | refine blk_drewN ?_ _ | refine blk_drew ?_ | refine blk_alloc ?_ _)); exact BK107.out) hb); have n3_ := Aside0.mk (below_step (by repeat (first | (with_reducible first | exact HB.out | apply below_alloc | apply pw_below_drewN | apply below_drew1 | refine below_set ?_ GE101.out | refine below_set ?_ GE107.out) | exact HB.out)) hb); clear BK101; clear BK107; clear HB; have HO110 := n0_; have BK101 := n1_; have BK107 := n2_; have HB := n3_; clear n0_ n1_ n2_ n3_; clear hb ho35; obtain ⟨Ao36, co36, eo36⟩ := Kd.R_slice HO110.out; subst eo36) | ((with_reducible refine gate_callee (f := 92) rfl ?_); refine gl_ (some 9) Tryz.func92 #[.slice Ao36 y108.length co36, .func (.func 101) #[] #[]] ?_; (with_reducible refine (api_Errno_92__market_checkTotal.calls k _ _ y108 () t111 _ ?side1 ?side2 A3.out).mono ?_); (case side1 => repeat (first | exact (Kd.R_reads' HO110.out).2.2 | (with_reducible refine Kd.C_alloc ?_ _) | (with_reducible refine Kd.C_drewN ?_ _) | (with_reducible refine Kd.C_drew ?_))); (case side2 => exact (Kd.R_reads' HO110.out).2.1); rintro e w37 ⟨v112, rfl, ho0, hb⟩; refine ⟨_, rfl, ?_⟩; have n0_ := Aside0.mk (Kd.R_below (rs_ HO110.out) hb); have n1_ := Aside0.mk (Kd.R_lower ho0 (below_size (by repeat (first | (with_reducible first | exact HB.out | apply below_alloc | apply pw_below_drewN | apply below_drew1 | refine below_set ?_ GE101.out | refine below_set ?_ GE107.out) | exact HB.out)))); have n2_ := Aside0.mk (blk_below (g := gb101) (o := .cells #[.int .i64 a0_0, .int .i64 a0_1, .int .i64 a0_2, .int .i64 a0_3, .int .i64 a0_4] 86 (0, 0)) (bs_ BK101.out) hb); have n3_ := Aside0.mk (blk_below (g := gb107) (o := .cells #[.int .i64 t102, .int .i64 t103, .int .i64 t104, .int .i64 t105, .int .i64 t106] 183 (0, 0)) (bs_ BK107.out) hb); have n4_ := Aside0.mk (below_step (by repeat (first | (with_reducible first | exact HB.out | apply below_alloc | apply pw_below_drewN | apply below_drew1 | refine below_set ?_ GE101.out | refine below_set ?_ GE107.out) | exact HB.out)) hb); clear HO110; clear BK101; clear BK107; clear HB; have HO110 := n0_; have HO113 := n1_; have BK101 := n2_; have BK107 := n3_; have HB := n4_; clear n0_ n1_ n2_ n3_ n4_; (try clear hb); (try clear hb2); (try clear hk); (try clear hi); (try clear ho0); obtain ⟨Ao38, co38, eo38⟩ := Kd.R_slice HO113.out; subst eo38) | ((with_reducible refine gate_callee (f := 85) rfl ?_); refine gl_ (some 10) Tryz.func85 #[.slice Ao38 t111.length co38] ?_; (with_reducible refine (market_first.calls k _ _ t111 t114 _ ?side1 ?side2 A4.out).mono ?_); (case side1 => repeat (first | exact (Kd.R_reads' HO113.out).2.2 | (with_reducible refine Kd.C_alloc ?_ _) | (with_reducible refine Kd.C_drewN ?_ _) | (with_reducible refine Kd.C_drew ?_))); (case side2 => exact (Kd.R_reads' HO113.out).2.1); rintro e w' ⟨rfl, ⟨nd, rfl⟩⟩; refine ⟨_, rfl, ?_⟩))
  go_ret
  exact ⟨by first | rfl | (simp [errW_none, errW_some] <;> rfl) | (simp [*, errW_none, errW_some] <;> rfl), by repeat (first | (with_reducible first | exact HB.out | apply below_alloc | apply pw_below_drewN | apply below_drew1 | refine below_set ?_ GE101.out | refine below_set ?_ GE107.out) | exact HB.out)⟩
end Go.Proofs.YtfdlhbdcejlopaaGreatDoor.B
namespace Go.Proofs.YtfdlhbdcejlopaaGreatDoor.B
open Go.RowKit Go.Proofs.YtfdlhbdcejlopaaGreatDoorW.PrintWords Go.Proofs.YtfdlhbdcejlopaaGreatDoorW.PrintLast Go.Proofs.YtfdlhbdcejlopaaGreatDoorW.PrintMore
attribute [local go_sem] max2_int min2_int max_two min_two
set_option linter.unusedVariables false
set_option linter.unusedSimpArgs false
/-! ### api_Errno_154__market_CheckQuarter: function 154 -/
def api_Errno_154__market_CheckQuarter.l0 : Nat → List Int → List (S86) → Int → Int → Option (List Int)
 | 0, _, _, _, _ => none
 | k + 1, x5, x8, x9, x10 => if x10 < x9 then (if 0 ≤ x10 then (if x10 < (x8.length : Int) then ((market_CheckQuarter.f k ((rd_T86 x8 x10).f0) ((rd_T86 x8 x10).f1) ((rd_T86 x8 x10).f2) ((rd_T86 x8 x10).f3) ((rd_T86 x8 x10).f4)).bind fun t103 => (if x5.length < 17592186044416 then (api_Errno_154__market_CheckQuarter.l0 k (x5 ++ [t103]) x8 x9 (wrap64 (x10 + 1))) else (none))) else (none)) else (none)) else (some x5)
def api_Errno_154__market_CheckQuarter.f (k : Nat) (l0 : List (S86)) (a1 : Unit) : Option (List Int) := api_Errno_154__market_CheckQuarter.l0 k ([] : List Int) l0 (l0.length : Int) 0
set_option maxHeartbeats 8000000 in
set_option maxRecDepth 100000 in
theorem api_Errno_154__market_CheckQuarter.calls (k : Nat) (A0 : Option Addr) (c0 : Nat) (l0 : List (S86)) (a1 : Unit) (r : List Int) (w : World) (hr0 : Kd.C k86 w A0 l0.length l0) (hc0 : l0.length ≤ c0) (h : api_Errno_154__market_CheckQuarter.f k l0 a1 = some r) :
  Calls Tryz.prog 154 #[.slice A0 l0.length c0, .func (.func 59) #[] #[]] w fun e w' => ∃ v0_ : Value, e = .returned (v0_) ∧ Kd.R (Kd.int .i64) 28 w' w.heap.size (fun _ => True) v0_ r ∧ Below w.heap.size w w' := by
 have hu86 := Tryz.underlying86
 have HR0 := Aside0.mk hr0
 have HC0 := Aside0.mk hc0
 clear hr0 hc0
 have HB := Aside0.mk (Below.refl w.heap.size w)
 have H : (api_Errno_154__market_CheckQuarter.l0 k ([] : List Int) l0 (l0.length : Int) 0) = some r := h
 clear h
 have H' := Aside0.mk H
 clear H
 go_enter Tryz.func154, Tryz.ntmps154
 go_wp2
 go_loopg [5, 10] k (fun kq v5 v10 w' => ∃ (x5_1 : List Int) (x10_1 : Int), v10 = .int .i64 x10_1 ∧ Aside0 (api_Errno_154__market_CheckQuarter.l0 kq x5_1 l0 (l0.length : Int) x10_1 = some r) ∧ Aside0 (kq ≤ k) ∧ Aside0 (Kd.R (Kd.int .i64) 28 w' w.heap.size (fun _ => True) v5 x5_1) ∧ Aside0 (Below w.heap.size w w'))
 case atStart => exact ⟨(([] : List Int)), (0), (by first | rfl | (simp; done) | (simp [*]; done)), H', ⟨Nat.le_refl _⟩, ⟨by first | exact Kd.R_nil _ _ _ _ _ | exact Kd.N_nil _ _ _ _ _ | exact Kd.V_nil _ _ _ _ _ | exact Kd.Q_nil _ _ _ _ _ | exact Kd.S_nil _ _ _ _ _⟩, ⟨by repeat (first | (with_reducible first | exact HB.out | apply below_alloc | apply pw_below_drewN | apply below_drew1) | exact HB.out)⟩⟩
 case round =>
  clear H'
  try clear c1
  try clear p2
  obtain ⟨x5_1, x10_1, rfl, HA, HK1, HO_5, HB⟩ := hrel
  cases gk with
  | zero => exact absurd HA.out (by simp [api_Errno_154__market_CheckQuarter.l0])
  | succ k1 =>
   have H := HA.out
   clear HA
   simp only [api_Errno_154__market_CheckQuarter.l0] at H
   by_cases c3 : x10_1 < (l0.length : Int)
   ·rw [if_pos c3] at H
    have c3b0 : decide (x10_1 < (l0.length : Int)) = true := decide_eq_true c3
    clear c3
    by_cases c4 : 0 ≤ x10_1
    ·rw [if_pos c4] at H
     have c4b0 : decide (0 ≤ x10_1) = true := decide_eq_true c4
     clear c4
     by_cases c5 : x10_1 < (l0.length : Int)
     ·rw [if_pos c5] at H
      have c5b0 : decide (x10_1 < (l0.length : Int)) = true := decide_eq_true c5
      clear c5
      replace H := Option.bind_eq_some_iff.mp H
      obtain ⟨t103, A60, H⟩ := H
      replace H : (if x5_1.length < 17592186044416 then (api_Errno_154__market_CheckQuarter.l0 k1 (x5_1 ++ [t103]) l0 (l0.length : Int) (wrap64 (x10_1 + 1))) else (none)) = some r := H
      have A6 := Aside0.mk A60
      clear A60
      by_cases c7 : x5_1.length < 17592186044416
      ·rw [if_pos c7] at H
       have LMc7 := Aside0.mk c7
       clear c7
       obtain ⟨y104, hy104⟩ : ∃ y_ : List Int, y_ = (x5_1 ++ [t103]) := ⟨_, rfl⟩
       replace H : (api_Errno_154__market_CheckQuarter.l0 k1 y104 l0 (l0.length : Int) (wrap64 (x10_1 + 1))) = some r := by first | (rw [hy104]; with_reducible exact H) | (have H2_ := (Option.bind_some _ _).symm.trans H; rw [hy104]; with_reducible exact H2_) | (have H2_ := (Option.bind_some _ _).symm.trans H; with_reducible exact H2_) | with_reducible exact H | (rw [hy104]; exact H) | exact H
       have Ny104 := Aside0.mk hy104
       clear hy104
       have H' := Aside0.mk H
       clear H
       have p101 : 0 ≤ (x10_1 : Int) := of_decide_eq_true (by first | (with_reducible assumption) | assumption)
       have q101 : x10_1 < (l0.length : Int) := of_decide_eq_true (by first | (with_reducible assumption) | assumption)
       obtain ⟨ad101, e101, hx101_0, hx101_1, hx101_2, hx101_3, hx101_4⟩ := at_T86 HR0.out x10_1 p101 q101
       cases e101
       replace hx101_0 := (HB.out.cell (World.block_lt_of_cell? w _ hx101_0)).trans hx101_0
       replace hx101_1 := (HB.out.cell (World.block_lt_of_cell? w _ hx101_1)).trans hx101_1
       replace hx101_2 := (HB.out.cell (World.block_lt_of_cell? w _ hx101_2)).trans hx101_2
       replace hx101_3 := (HB.out.cell (World.block_lt_of_cell? w _ hx101_3)).trans hx101_3
       replace hx101_4 := (HB.out.cell (World.block_lt_of_cell? w _ hx101_4)).trans hx101_4
       replace p101 := eq_true p101
       replace q101 := eq_true q101
       go_wp2_with (first | ((with_reducible refine gate_dst (N := 7) rfl ?_); refine box_event ?hg (N := 7) ?hd (cs := #[.int .i64 0, .int .i64 0, .int .i64 0, .int .i64 0, .int .i64 0]) (t := 86) ?hr ?_; (case hd => rfl); (case hg => rfl); (case hr => first | (go_simp; done) | (go_simp; rfl)); intro gb102 hg w8 hbox hb; have n0_ := Aside0.mk (Kd.R_below (rs_ HO_5.out) hb); have n1_ := Aside0.mk (below_step (ws_ HB.out) hb); have n2_ := Aside0.mk (hbox); have n3_ := Aside0.mk ((by rw [hg]; exact (below_size (ws_ HB.out)) : w.heap.size ≤ gb102)); have n4_ := Aside0.mk ((by rw [hg]; exact (below_size (ws_ HB.out)) : w.heap.size ≤ gb102)); clear HO_5; clear HB; have HO_5 := n0_; have HB := n1_; have BK102 := n2_; have GW102 := n3_; have GE102 := n4_; clear n0_ n1_ n2_ n3_ n4_; clear hb hbox hg; have hcz9_0 : w8.cell? ⟨gb102, 0, none⟩ = some (.int .i64 0) := (blk_cell BK102.out 0).trans rfl; have hcz9_1 : w8.cell? ⟨gb102, 1, none⟩ = some (.int .i64 0) := (blk_cell BK102.out 1).trans rfl; have hcz9_2 : w8.cell? ⟨gb102, 2, none⟩ = some (.int .i64 0) := (blk_cell BK102.out 2).trans rfl; have hcz9_3 : w8.cell? ⟨gb102, 3, none⟩ = some (.int .i64 0) := (blk_cell BK102.out 3).trans rfl; have hcz9_4 : w8.cell? ⟨gb102, 4, none⟩ = some (.int .i64 0) := (blk_cell BK102.out 4).trans rfl; have hfz9_0 := blk_frozen BK102.out 0; have hfz9_1 := blk_frozen BK102.out 1; have hfz9_2 := blk_frozen BK102.out 2; have hfz9_3 := blk_frozen BK102.out 3; have hfz9_4 := blk_frozen BK102.out 4) | ((with_reducible refine gate_calleeT (t := 15) rfl ?_); refine goesT_ (some 17) rfl rfl Tryz.func59 (by kernel_rfl) rfl #[.agg #[.int .i64 ((rd_T86 l0 x10_1).f0), .int .i64 ((rd_T86 l0 x10_1).f1), .int .i64 ((rd_T86 l0 x10_1).f2), .int .i64 ((rd_T86 l0 x10_1).f3), .int .i64 ((rd_T86 l0 x10_1).f4)]] rfl rfl (by (try simp only [List.map_toArray, List.map_cons, List.map_nil]); first | done | rfl | (simp only [List.length_drop, List.length_take]; rfl)) ?_; (with_reducible refine (market_CheckQuarter.calls k1 ((rd_T86 l0 x10_1).f0) ((rd_T86 l0 x10_1).f1) ((rd_T86 l0 x10_1).f2) ((rd_T86 l0 x10_1).f3) ((rd_T86 l0 x10_1).f4) t103 _ A6.out).mono ?_); rintro e w10 ⟨rfl, hb⟩; refine ⟨_, rfl, ?_⟩; have n0_ := Aside0.mk (Kd.R_below (by (with_reducible repeat (first | apply Kd.R_alloc | apply Kd.R_drewN | apply Kd.R_drew)); exact (Kd.R_mono (Kd.R_far (p := ⟨gb102, 4, none⟩) (Kd.R_far (p := ⟨gb102, 3, none⟩) (Kd.R_far (p := ⟨gb102, 2, none⟩) (Kd.R_far (p := ⟨gb102, 1, none⟩) (Kd.R_far (p := ⟨gb102, 0, none⟩) (Kd.R_types HO_5.out BK102.out (by decide)) (fun _ hk => hk.2) (.int .i64 ((rd_T86 l0 x10_1).f0))) (fun _ hk => hk.2) (.int .i64 ((rd_T86 l0 x10_1).f1))) (fun _ hk => hk.2) (.int .i64 ((rd_T86 l0 x10_1).f2))) (fun _ hk => hk.2) (.int .i64 ((rd_T86 l0 x10_1).f3))) (fun _ hk => hk.2) (.int .i64 ((rd_T86 l0 x10_1).f4))) (fun _ h_ => h_.1))) hb); have n1_ := Aside0.mk (blk_below (g := gb102) (o := .cells #[.int .i64 ((rd_T86 l0 x10_1).f0), .int .i64 ((rd_T86 l0 x10_1).f1), .int .i64 ((rd_T86 l0 x10_1).f2), .int .i64 ((rd_T86 l0 x10_1).f3), .int .i64 ((rd_T86 l0 x10_1).f4)] 86 (0, 0)) (by (with_reducible repeat (first | refine blk_drewN ?_ _ | refine blk_drew ?_ | refine blk_alloc ?_ _)); refine blk_put (cs := #[.int .i64 ((rd_T86 l0 x10_1).f0), .int .i64 ((rd_T86 l0 x10_1).f1), .int .i64 ((rd_T86 l0 x10_1).f2), .int .i64 ((rd_T86 l0 x10_1).f3), .int .i64 0]) ?_ 4 _ rfl; (with_reducible repeat (first | refine blk_drewN ?_ _ | refine blk_drew ?_ | refine blk_alloc ?_ _)); refine blk_put (cs := #[.int .i64 ((rd_T86 l0 x10_1).f0), .int .i64 ((rd_T86 l0 x10_1).f1), .int .i64 ((rd_T86 l0 x10_1).f2), .int .i64 0, .int .i64 0]) ?_ 3 _ rfl; (with_reducible repeat (first | refine blk_drewN ?_ _ | refine blk_drew ?_ | refine blk_alloc ?_ _)); refine blk_put (cs := #[.int .i64 ((rd_T86 l0 x10_1).f0), .int .i64 ((rd_T86 l0 x10_1).f1), .int .i64 0, .int .i64 0, .int .i64 0]) ?_ 2 _ rfl; (with_reducible repeat (first | refine blk_drewN ?_ _ | refine blk_drew ?_ | refine blk_alloc ?_ _)); refine blk_put (cs := #[.int .i64 ((rd_T86 l0 x10_1).f0), .int .i64 0, .int .i64 0, .int .i64 0, .int .i64 0]) ?_ 1 _ rfl; (with_reducible repeat (first | refine blk_drewN ?_ _ | refine blk_drew ?_ | refine blk_alloc ?_ _)); refine blk_put (cs := #[.int .i64 0, .int .i64 0, .int .i64 0, .int .i64 0, .int .i64 0]) ?_ 0 _ rfl; (with_reducible repeat (first | refine blk_drewN ?_ _ | refine blk_drew ?_ | refine blk_alloc ?_ _)); exact BK102.out) hb); have n2_ := Aside0.mk (below_step (wg_ HB.out GE102.out) hb); clear HO_5; clear BK102; clear HB; have HO_5 := n0_; have BK102 := n1_; have HB := n2_; clear n0_ n1_ n2_; (try clear hb); (try clear hb2); (try clear hk); (try clear hi)) | ((with_reducible refine gate_builtin (b := .append) (xs := #[.tmp 14, .tmp 18]) rfl ?_); at_builtin; refine Kd.R_append (Kd.int .i64) (w0 := w) w.heap.size rfl (.tmp 14) (.tmp 18) 158 28 (.int .i64 0) 8 rfl Tryz.underlying158 info28 rfl (by decide) (by omega) u5 x5_1 t103 [.int .i64 t103] (fun _ => True) (fun _ => False) rfl rfl ?aP (fun _ hk => hk.elim) ?aF ?aO ?aB ?aS ?aL ?_; (case aP => exact rfl); (case aB => exact (wg_ HB.out GE102.out)); (case aF => exact (fun _ _ => trivial)); (case aO => exact (rs_ HO_5.out)); (case aS => exact (below_size (wg_ HB.out GE102.out))); (case aL => have := LMc7.out; omega); intro v105 w11 ho hb hg hat; rw [← Ny104.out] at ho; have n0_ := Aside0.mk (blk_grown (g := gb102) (o := .cells #[.int .i64 ((rd_T86 l0 x10_1).f0), .int .i64 ((rd_T86 l0 x10_1).f1), .int .i64 ((rd_T86 l0 x10_1).f2), .int .i64 ((rd_T86 l0 x10_1).f3), .int .i64 ((rd_T86 l0 x10_1).f4)] 86 (0, 0)) (bs_ BK102.out) hg (Kd.R_ne HO_5.out BK102.out (by decide))); have n1_ := Aside0.mk (hb); have n2_ := Aside0.mk (ho); clear BK102; clear HB; clear HO_5; have BK102 := n0_; have HB := n1_; have HO106 := n2_; clear n0_ n1_ n2_; clear ho hb hg hat))
       go_roundg k1
       case measure => have := HK1.out; omega
       case rel => exact ⟨(y104), (wrap64 (x10_1 + 1)), (by first | rfl | (simp; done) | (simp [*]; done)), H', ⟨by have := HK1.out; omega⟩, ⟨by (with_reducible repeat (first | apply Kd.R_alloc | apply Kd.R_drewN | apply Kd.R_drew)); exact HO106.out⟩, ⟨by repeat (first | (with_reducible first | exact HB.out | apply below_alloc | apply pw_below_drewN | apply below_drew1 | refine below_set ?_ GE102.out) | exact HB.out)⟩⟩
      ·rw [if_neg c7] at H
       exact absurd H (by simp)
     ·rw [if_neg c5] at H
      exact absurd H (by simp)
    ·rw [if_neg c4] at H
     exact absurd H (by simp)
   ·rw [if_neg c3] at H
    have c3b0 : decide (x10_1 < (l0.length : Int)) = false := decide_eq_false c3
    clear c3
    obtain rfl := Option.some.inj H
    go_wp2
    go_ret
    exact ⟨_, by first | rfl | (simp [errW_none, errW_some] <;> rfl) | (simp [*, errW_none, errW_some] <;> rfl), by (with_reducible repeat (first | apply Kd.R_alloc | apply Kd.R_drewN | apply Kd.R_drew)); exact HO_5.out, by repeat (first | (with_reducible first | exact HB.out | apply below_alloc | apply pw_below_drewN | apply below_drew1) | exact HB.out)⟩
/-! ### market_Quarter__market_CheckQuarter: function 132 -/
def market_Quarter__market_CheckQuarter.f (k : Nat) (l0 : List (S86)) (a1 : Unit) : Option (Int) := (market_when.f (decide ((l0.length : Int) > 96)) 5).bind fun t101 => ((api_Errno_154__market_CheckQuarter.f k l0 a1).bind fun t102 => ((market_first.f k t102).bind fun t105 => ((market_first.f k (([t101, t105] : List Int))).bind fun t109 => (some t109))))
set_option maxHeartbeats 8000000 in
set_option maxRecDepth 100000 in
theorem market_Quarter__market_CheckQuarter.calls (k : Nat) (A0 : Option Addr) (c0 : Nat) (l0 : List (S86)) (a1 : Unit) (r : Int) (w : World) (hr0 : Kd.C k86 w A0 l0.length l0) (hc0 : l0.length ≤ c0) (h : market_Quarter__market_CheckQuarter.f k l0 a1 = some r) :
  Calls Tryz.prog 132 #[.slice A0 l0.length c0, .func (.func 59) #[] #[]] w fun e w' => e = .returned (.int .i64 r) ∧ Below w.heap.size w w' := by
 have HR0 := Aside0.mk hr0
 have HC0 := Aside0.mk hc0
 clear hr0 hc0
 have HB := Aside0.mk (Below.refl w.heap.size w)
 have H : ((market_when.f (decide ((l0.length : Int) > 96)) 5).bind fun t101 => ((api_Errno_154__market_CheckQuarter.f k l0 a1).bind fun t102 => ((market_first.f k t102).bind fun t105 => ((market_first.f k (([t101, t105] : List Int))).bind fun t109 => (some t109))))) = some r := h
 clear h
 replace H := Option.bind_eq_some_iff.mp H
 obtain ⟨t101, A30, H⟩ := H
 replace H : ((api_Errno_154__market_CheckQuarter.f k l0 a1).bind fun t102 => ((market_first.f k t102).bind fun t105 => ((market_first.f k (([t101, t105] : List Int))).bind fun t109 => (some t109)))) = some r := H
 have A3 := Aside0.mk A30
 clear A30
 replace H := Option.bind_eq_some_iff.mp H
 obtain ⟨t102, A40, H⟩ := H
 replace H : ((market_first.f k t102).bind fun t105 => ((market_first.f k (([t101, t105] : List Int))).bind fun t109 => (some t109))) = some r := H
 have A4 := Aside0.mk A40
 clear A40
 replace H := Option.bind_eq_some_iff.mp H
 obtain ⟨t105, A50, H⟩ := H
 replace H : ((market_first.f k (([t101, t105] : List Int))).bind fun t109 => (some t109)) = some r := H
 have A5 := Aside0.mk A50
 clear A50
 obtain ⟨y106, hy106⟩ : ∃ y_ : List Int, y_ = (([t101, t105] : List Int)) := ⟨_, rfl⟩
 replace H : ((market_first.f k y106).bind fun t109 => (some t109)) = some r := by first | (rw [hy106]; with_reducible exact H) | (have H2_ := (Option.bind_some _ _).symm.trans H; rw [hy106]; with_reducible exact H2_) | (have H2_ := (Option.bind_some _ _).symm.trans H; with_reducible exact H2_) | with_reducible exact H | (rw [hy106]; exact H) | exact H
 have Ny106 := Aside0.mk hy106
 clear hy106
 replace H := Option.bind_eq_some_iff.mp H
 obtain ⟨t109, A60, H⟩ := H
 replace H : (some t109) = some r := H
 have A6 := Aside0.mk A60
 clear A60
 obtain rfl := Option.some.inj H
 go_enter Tryz.func132, Tryz.ntmps132
 go_wp2_with (first | ((with_reducible refine gate_callee (f := 90) rfl ?_); refine gl_ (some 8) Tryz.func90 #[.bool (decide ((l0.length : Int) > 96)), .int .i64 5] ?_; (with_reducible refine (market_when.calls (decide ((l0.length : Int) > 96)) 5 t101 _ A3.out).mono ?_); rintro e w' ⟨rfl, ⟨nd, rfl⟩⟩; refine ⟨_, rfl, ?_⟩) | ((with_reducible refine gate_callee (f := 154) rfl ?_); refine gl_ (some 11) Tryz.func154 #[.slice A0 l0.length c0, .func (.func 59) #[] #[]] ?_; (with_reducible refine (api_Errno_154__market_CheckQuarter.calls k _ _ l0 a1 t102 _ ?side1 ?side2 A4.out).mono ?_); (case side1 => exact cs_ HR0.out); (case side2 => exact HC0.out); rintro e w7 ⟨v103, rfl, ho0, hb⟩; refine ⟨_, rfl, ?_⟩; have n0_ := Aside0.mk (Kd.R_lower ho0 (below_size (ws_ HB.out))); have n1_ := Aside0.mk (below_step (ws_ HB.out) hb); clear HB; have HO104 := n0_; have HB := n1_; clear n0_ n1_; (try clear hb); (try clear hb2); (try clear hk); (try clear hi); (try clear ho0); obtain ⟨Ao8, co8, eo8⟩ := Kd.R_slice HO104.out; subst eo8) | ((with_reducible refine gate_callee (f := 85) rfl ?_); refine gl_ (some 12) Tryz.func85 #[.slice Ao8 t102.length co8] ?_; (with_reducible refine (market_first.calls k _ _ t102 t105 _ ?side1 ?side2 A5.out).mono ?_); (case side1 => repeat (first | exact (Kd.R_reads' HO104.out).2.2 | (with_reducible refine Kd.C_alloc ?_ _) | (with_reducible refine Kd.C_drewN ?_ _) | (with_reducible refine Kd.C_drew ?_))); (case side2 => exact (Kd.R_reads' HO104.out).2.1); rintro e w' ⟨rfl, ⟨nd, rfl⟩⟩; refine ⟨_, rfl, ?_⟩) | ((with_reducible refine gate_dst (N := 13) rfl ?_); refine Kd.R_lit (Kd.int .i64) _ 28 ?hg (N := 13) ?hd (xs := ([t101, t105] : List Int)) (inner := [.int .i64 t101, .int .i64 t105]) (ok := fun _ => True) (okp := fun _ => True) ?hr ?hp (fun _ hk => hk) trivial (Below.refl _ _) (Nat.le_refl _) (by simp) ?_; (case hd => rfl); (case hg => rfl); (case hr => first | (go_simp; done) | (go_simp; rfl)); (case hp => exact (Reps.one (show Kd.M (Kd.int .i64) _ _ _ t101 [.int .i64 t101] from rfl) (Reps.one (show Kd.M (Kd.int .i64) _ _ _ t105 [.int .i64 t105] from rfl) (Reps.none _ _)))); intro v107 w9 ho10 hb hg_ hnew_; clear hg_ hnew_; (first | rw [← Ny106.out] at ho10 | (simp only [Int.reduceToNat] at ho10; rw [← Ny106.out] at ho10)); have n0_ := Aside0.mk (Kd.R_elder' (rs_ HO104.out) (Kd.R_base ho10) hb); have n1_ := Aside0.mk (Kd.R_lower (Kd.R_new' ho10 (Kd.R_lt (rs_ HO104.out))) (below_size (ws_ HB.out))); have n2_ := Aside0.mk (below_step (ws_ HB.out) hb); clear HO104; clear HB; have HO104 := n0_; have HO108 := n1_; have HB := n2_; clear n0_ n1_ n2_; clear hb ho10; obtain ⟨Ao11, co11, eo11⟩ := Kd.R_slice HO108.out; subst eo11) | ((with_reducible refine gate_callee (f := 85) rfl ?_); refine gl_ (some 14) Tryz.func85 #[.slice Ao11 y106.length co11] ?_; (with_reducible refine (market_first.calls k _ _ y106 t109 _ ?side1 ?side2 A6.out).mono ?_); (case side1 => repeat (first | exact (Kd.R_reads' HO108.out).2.2 | (with_reducible refine Kd.C_alloc ?_ _) | (with_reducible refine Kd.C_drewN ?_ _) | (with_reducible refine Kd.C_drew ?_))); (case side2 => exact (Kd.R_reads' HO108.out).2.1); rintro e w' ⟨rfl, ⟨nd, rfl⟩⟩; refine ⟨_, rfl, ?_⟩))
 go_ret
 exact ⟨by first | rfl | (simp [errW_none, errW_some] <;> rfl) | (simp [*, errW_none, errW_some] <;> rfl), by repeat (first | (with_reducible first | exact HB.out | apply below_alloc | apply pw_below_drewN | apply below_drew1) | exact HB.out)⟩
/-! ### api_Errno_178__market_CheckPrices: function 178 -/
def api_Errno_178__market_CheckPrices.l0 : Nat → List Int → List (S31) → Int → Int → Option (List Int)
 | 0, _, _, _, _ => none
 | k + 1, x5, x8, x9, x10 => if x10 < x9 then (if 0 ≤ x10 then (if x10 < (x8.length : Int) then ((market_CheckPrices.f k ((rd_T31 x8 x10).f0) ((rd_T31 x8 x10).f1) ((rd_T31 x8 x10).f2)).bind fun t103 => (if x5.length < 17592186044416 then (api_Errno_178__market_CheckPrices.l0 k (x5 ++ [t103]) x8 x9 (wrap64 (x10 + 1))) else (none))) else (none)) else (none)) else (some x5)
def api_Errno_178__market_CheckPrices.f (k : Nat) (l0 : List (S31)) (a1 : Unit) : Option (List Int) := api_Errno_178__market_CheckPrices.l0 k ([] : List Int) l0 (l0.length : Int) 0
set_option maxHeartbeats 8000000 in
set_option maxRecDepth 100000 in
theorem api_Errno_178__market_CheckPrices.calls (k : Nat) (A0 : Option Addr) (c0 : Nat) (l0 : List (S31)) (a1 : Unit) (r : List Int) (w : World) (hr0 : Kd.C k31 w A0 l0.length l0) (hc0 : l0.length ≤ c0) (h : api_Errno_178__market_CheckPrices.f k l0 a1 = some r) :
  Calls Tryz.prog 178 #[.slice A0 l0.length c0, .func (.func 27) #[] #[]] w fun e w' => ∃ v0_ : Value, e = .returned (v0_) ∧ Kd.R (Kd.int .i64) 28 w' w.heap.size (fun _ => True) v0_ r ∧ Below w.heap.size w w' := by
 have hu31 := Tryz.underlying31
 have HR0 := Aside0.mk hr0
 have HC0 := Aside0.mk hc0
 clear hr0 hc0
 have HB := Aside0.mk (Below.refl w.heap.size w)
 have H : (api_Errno_178__market_CheckPrices.l0 k ([] : List Int) l0 (l0.length : Int) 0) = some r := h
 clear h
 have H' := Aside0.mk H
 clear H
 go_enter Tryz.func178, Tryz.ntmps178
 go_wp2
 go_loopg [5, 10] k (fun kq v5 v10 w' => ∃ (x5_1 : List Int) (x10_1 : Int), v10 = .int .i64 x10_1 ∧ Aside0 (api_Errno_178__market_CheckPrices.l0 kq x5_1 l0 (l0.length : Int) x10_1 = some r) ∧ Aside0 (kq ≤ k) ∧ Aside0 (Kd.R (Kd.int .i64) 28 w' w.heap.size (fun _ => True) v5 x5_1) ∧ Aside0 (Below w.heap.size w w'))
 case atStart => exact ⟨(([] : List Int)), (0), (by first | rfl | (simp; done) | (simp [*]; done)), H', ⟨Nat.le_refl _⟩, ⟨by first | exact Kd.R_nil _ _ _ _ _ | exact Kd.N_nil _ _ _ _ _ | exact Kd.V_nil _ _ _ _ _ | exact Kd.Q_nil _ _ _ _ _ | exact Kd.S_nil _ _ _ _ _⟩, ⟨by repeat (first | (with_reducible first | exact HB.out | apply below_alloc | apply pw_below_drewN | apply below_drew1) | exact HB.out)⟩⟩
 case round =>
  clear H'
  try clear c1
  try clear p2
  obtain ⟨x5_1, x10_1, rfl, HA, HK1, HO_5, HB⟩ := hrel
  cases gk with
  | zero => exact absurd HA.out (by simp [api_Errno_178__market_CheckPrices.l0])
  | succ k1 =>
   have H := HA.out
   clear HA
   simp only [api_Errno_178__market_CheckPrices.l0] at H
   by_cases c3 : x10_1 < (l0.length : Int)
   ·rw [if_pos c3] at H
    have c3b0 : decide (x10_1 < (l0.length : Int)) = true := decide_eq_true c3
    clear c3
    by_cases c4 : 0 ≤ x10_1
    ·rw [if_pos c4] at H
     have c4b0 : decide (0 ≤ x10_1) = true := decide_eq_true c4
     clear c4
     by_cases c5 : x10_1 < (l0.length : Int)
     ·rw [if_pos c5] at H
      have c5b0 : decide (x10_1 < (l0.length : Int)) = true := decide_eq_true c5
      clear c5
      replace H := Option.bind_eq_some_iff.mp H
      obtain ⟨t103, A60, H⟩ := H
      replace H : (if x5_1.length < 17592186044416 then (api_Errno_178__market_CheckPrices.l0 k1 (x5_1 ++ [t103]) l0 (l0.length : Int) (wrap64 (x10_1 + 1))) else (none)) = some r := H
      have A6 := Aside0.mk A60
      clear A60
      by_cases c7 : x5_1.length < 17592186044416
      ·rw [if_pos c7] at H
       have LMc7 := Aside0.mk c7
       clear c7
       obtain ⟨y104, hy104⟩ : ∃ y_ : List Int, y_ = (x5_1 ++ [t103]) := ⟨_, rfl⟩
       replace H : (api_Errno_178__market_CheckPrices.l0 k1 y104 l0 (l0.length : Int) (wrap64 (x10_1 + 1))) = some r := by first | (rw [hy104]; with_reducible exact H) | (have H2_ := (Option.bind_some _ _).symm.trans H; rw [hy104]; with_reducible exact H2_) | (have H2_ := (Option.bind_some _ _).symm.trans H; with_reducible exact H2_) | with_reducible exact H | (rw [hy104]; exact H) | exact H
       have Ny104 := Aside0.mk hy104
       clear hy104
       have H' := Aside0.mk H
       clear H
       have p101 : 0 ≤ (x10_1 : Int) := of_decide_eq_true (by first | (with_reducible assumption) | assumption)
       have q101 : x10_1 < (l0.length : Int) := of_decide_eq_true (by first | (with_reducible assumption) | assumption)
       obtain ⟨ad101, e101, hx101_0, hx101_1, hx101_2⟩ := at_T31 HR0.out x10_1 p101 q101
       cases e101
       replace hx101_0 := (HB.out.cell (World.block_lt_of_cell? w _ hx101_0)).trans hx101_0
       replace hx101_1 := (HB.out.cell (World.block_lt_of_cell? w _ hx101_1)).trans hx101_1
       replace hx101_2 := (HB.out.cell (World.block_lt_of_cell? w _ hx101_2)).trans hx101_2
       replace p101 := eq_true p101
       replace q101 := eq_true q101
       go_wp2_with (first | ((with_reducible refine gate_dst (N := 7) rfl ?_); refine box_event ?hg (N := 7) ?hd (cs := #[.int .i64 0, .int .i64 0, .int .i64 0]) (t := 31) ?hr ?_; (case hd => rfl); (case hg => rfl); (case hr => first | (go_simp; done) | (go_simp; rfl)); intro gb102 hg w8 hbox hb; have n0_ := Aside0.mk (Kd.R_below (rs_ HO_5.out) hb); have n1_ := Aside0.mk (below_step (ws_ HB.out) hb); have n2_ := Aside0.mk (hbox); have n3_ := Aside0.mk ((by rw [hg]; exact (below_size (ws_ HB.out)) : w.heap.size ≤ gb102)); have n4_ := Aside0.mk ((by rw [hg]; exact (below_size (ws_ HB.out)) : w.heap.size ≤ gb102)); clear HO_5; clear HB; have HO_5 := n0_; have HB := n1_; have BK102 := n2_; have GW102 := n3_; have GE102 := n4_; clear n0_ n1_ n2_ n3_ n4_; clear hb hbox hg; have hcz9_0 : w8.cell? ⟨gb102, 0, none⟩ = some (.int .i64 0) := (blk_cell BK102.out 0).trans rfl; have hcz9_1 : w8.cell? ⟨gb102, 1, none⟩ = some (.int .i64 0) := (blk_cell BK102.out 1).trans rfl; have hcz9_2 : w8.cell? ⟨gb102, 2, none⟩ = some (.int .i64 0) := (blk_cell BK102.out 2).trans rfl; have hfz9_0 := blk_frozen BK102.out 0; have hfz9_1 := blk_frozen BK102.out 1; have hfz9_2 := blk_frozen BK102.out 2) | ((with_reducible refine gate_calleeT (t := 15) rfl ?_); refine goesT_ (some 17) rfl rfl Tryz.func27 (by kernel_rfl) rfl #[.agg #[.int .i64 ((rd_T31 l0 x10_1).f0), .int .i64 ((rd_T31 l0 x10_1).f1), .int .i64 ((rd_T31 l0 x10_1).f2)]] rfl rfl (by (try simp only [List.map_toArray, List.map_cons, List.map_nil]); first | done | rfl | (simp only [List.length_drop, List.length_take]; rfl)) ?_; (with_reducible refine (market_CheckPrices.calls k1 ((rd_T31 l0 x10_1).f0) ((rd_T31 l0 x10_1).f1) ((rd_T31 l0 x10_1).f2) t103 _ A6.out).mono ?_); rintro e w10 ⟨rfl, hb⟩; refine ⟨_, rfl, ?_⟩; have n0_ := Aside0.mk (Kd.R_below (by (with_reducible repeat (first | apply Kd.R_alloc | apply Kd.R_drewN | apply Kd.R_drew)); exact (Kd.R_mono (Kd.R_far (p := ⟨gb102, 2, none⟩) (Kd.R_far (p := ⟨gb102, 1, none⟩) (Kd.R_far (p := ⟨gb102, 0, none⟩) (Kd.R_types HO_5.out BK102.out (by decide)) (fun _ hk => hk.2) (.int .i64 ((rd_T31 l0 x10_1).f0))) (fun _ hk => hk.2) (.int .i64 ((rd_T31 l0 x10_1).f1))) (fun _ hk => hk.2) (.int .i64 ((rd_T31 l0 x10_1).f2))) (fun _ h_ => h_.1))) hb); have n1_ := Aside0.mk (blk_below (g := gb102) (o := .cells #[.int .i64 ((rd_T31 l0 x10_1).f0), .int .i64 ((rd_T31 l0 x10_1).f1), .int .i64 ((rd_T31 l0 x10_1).f2)] 31 (0, 0)) (by (with_reducible repeat (first | refine blk_drewN ?_ _ | refine blk_drew ?_ | refine blk_alloc ?_ _)); refine blk_put (cs := #[.int .i64 ((rd_T31 l0 x10_1).f0), .int .i64 ((rd_T31 l0 x10_1).f1), .int .i64 0]) ?_ 2 _ rfl; (with_reducible repeat (first | refine blk_drewN ?_ _ | refine blk_drew ?_ | refine blk_alloc ?_ _)); refine blk_put (cs := #[.int .i64 ((rd_T31 l0 x10_1).f0), .int .i64 0, .int .i64 0]) ?_ 1 _ rfl; (with_reducible repeat (first | refine blk_drewN ?_ _ | refine blk_drew ?_ | refine blk_alloc ?_ _)); refine blk_put (cs := #[.int .i64 0, .int .i64 0, .int .i64 0]) ?_ 0 _ rfl; (with_reducible repeat (first | refine blk_drewN ?_ _ | refine blk_drew ?_ | refine blk_alloc ?_ _)); exact BK102.out) hb); have n2_ := Aside0.mk (below_step (wg_ HB.out GE102.out) hb); clear HO_5; clear BK102; clear HB; have HO_5 := n0_; have BK102 := n1_; have HB := n2_; clear n0_ n1_ n2_; (try clear hb); (try clear hb2); (try clear hk); (try clear hi)) | ((with_reducible refine gate_builtin (b := .append) (xs := #[.tmp 14, .tmp 18]) rfl ?_); at_builtin; refine Kd.R_append (Kd.int .i64) (w0 := w) w.heap.size rfl (.tmp 14) (.tmp 18) 158 28 (.int .i64 0) 8 rfl Tryz.underlying158 info28 rfl (by decide) (by omega) u5 x5_1 t103 [.int .i64 t103] (fun _ => True) (fun _ => False) rfl rfl ?aP (fun _ hk => hk.elim) ?aF ?aO ?aB ?aS ?aL ?_; (case aP => exact rfl); (case aB => exact (wg_ HB.out GE102.out)); (case aF => exact (fun _ _ => trivial)); (case aO => exact (rs_ HO_5.out)); (case aS => exact (below_size (wg_ HB.out GE102.out))); (case aL => have := LMc7.out; omega); intro v105 w11 ho hb hg hat; rw [← Ny104.out] at ho; have n0_ := Aside0.mk (blk_grown (g := gb102) (o := .cells #[.int .i64 ((rd_T31 l0 x10_1).f0), .int .i64 ((rd_T31 l0 x10_1).f1), .int .i64 ((rd_T31 l0 x10_1).f2)] 31 (0, 0)) (bs_ BK102.out) hg (Kd.R_ne HO_5.out BK102.out (by decide))); have n1_ := Aside0.mk (hb); have n2_ := Aside0.mk (ho); clear BK102; clear HB; clear HO_5; have BK102 := n0_; have HB := n1_; have HO106 := n2_; clear n0_ n1_ n2_; clear ho hb hg hat))
       go_roundg k1
       case measure => have := HK1.out; omega
       case rel => exact ⟨(y104), (wrap64 (x10_1 + 1)), (by first | rfl | (simp; done) | (simp [*]; done)), H', ⟨by have := HK1.out; omega⟩, ⟨by (with_reducible repeat (first | apply Kd.R_alloc | apply Kd.R_drewN | apply Kd.R_drew)); exact HO106.out⟩, ⟨by repeat (first | (with_reducible first | exact HB.out | apply below_alloc | apply pw_below_drewN | apply below_drew1 | refine below_set ?_ GE102.out) | exact HB.out)⟩⟩
      ·rw [if_neg c7] at H
       exact absurd H (by simp)
     ·rw [if_neg c5] at H
      exact absurd H (by simp)
    ·rw [if_neg c4] at H
     exact absurd H (by simp)
   ·rw [if_neg c3] at H
    have c3b0 : decide (x10_1 < (l0.length : Int)) = false := decide_eq_false c3
    clear c3
    obtain rfl := Option.some.inj H
    go_wp2
    go_ret
    exact ⟨_, by first | rfl | (simp [errW_none, errW_some] <;> rfl) | (simp [*, errW_none, errW_some] <;> rfl), by (with_reducible repeat (first | apply Kd.R_alloc | apply Kd.R_drewN | apply Kd.R_drew)); exact HO_5.out, by repeat (first | (with_reducible first | exact HB.out | apply below_alloc | apply pw_below_drewN | apply below_drew1) | exact HB.out)⟩
/-! ### market_Prices__market_CheckPrices: function 152 -/
def market_Prices__market_CheckPrices.f (k : Nat) (l0 : List (S31)) (a1 : Unit) : Option (Int) := (market_when.f (decide ((l0.length : Int) > 96)) 5).bind fun t101 => ((api_Errno_178__market_CheckPrices.f k l0 a1).bind fun t102 => ((market_first.f k t102).bind fun t105 => ((market_first.f k (([t101, t105] : List Int))).bind fun t109 => (some t109))))
set_option maxHeartbeats 8000000 in
set_option maxRecDepth 100000 in
theorem market_Prices__market_CheckPrices.calls (k : Nat) (A0 : Option Addr) (c0 : Nat) (l0 : List (S31)) (a1 : Unit) (r : Int) (w : World) (hr0 : Kd.C k31 w A0 l0.length l0) (hc0 : l0.length ≤ c0) (h : market_Prices__market_CheckPrices.f k l0 a1 = some r) :
  Calls Tryz.prog 152 #[.slice A0 l0.length c0, .func (.func 27) #[] #[]] w fun e w' => e = .returned (.int .i64 r) ∧ Below w.heap.size w w' := by
 have HR0 := Aside0.mk hr0
 have HC0 := Aside0.mk hc0
 clear hr0 hc0
 have HB := Aside0.mk (Below.refl w.heap.size w)
 have H : ((market_when.f (decide ((l0.length : Int) > 96)) 5).bind fun t101 => ((api_Errno_178__market_CheckPrices.f k l0 a1).bind fun t102 => ((market_first.f k t102).bind fun t105 => ((market_first.f k (([t101, t105] : List Int))).bind fun t109 => (some t109))))) = some r := h
 clear h
 replace H := Option.bind_eq_some_iff.mp H
 obtain ⟨t101, A30, H⟩ := H
 replace H : ((api_Errno_178__market_CheckPrices.f k l0 a1).bind fun t102 => ((market_first.f k t102).bind fun t105 => ((market_first.f k (([t101, t105] : List Int))).bind fun t109 => (some t109)))) = some r := H
 have A3 := Aside0.mk A30
 clear A30
 replace H := Option.bind_eq_some_iff.mp H
 obtain ⟨t102, A40, H⟩ := H
 replace H : ((market_first.f k t102).bind fun t105 => ((market_first.f k (([t101, t105] : List Int))).bind fun t109 => (some t109))) = some r := H
 have A4 := Aside0.mk A40
 clear A40
 replace H := Option.bind_eq_some_iff.mp H
 obtain ⟨t105, A50, H⟩ := H
 replace H : ((market_first.f k (([t101, t105] : List Int))).bind fun t109 => (some t109)) = some r := H
 have A5 := Aside0.mk A50
 clear A50
 obtain ⟨y106, hy106⟩ : ∃ y_ : List Int, y_ = (([t101, t105] : List Int)) := ⟨_, rfl⟩
 replace H : ((market_first.f k y106).bind fun t109 => (some t109)) = some r := by first | (rw [hy106]; with_reducible exact H) | (have H2_ := (Option.bind_some _ _).symm.trans H; rw [hy106]; with_reducible exact H2_) | (have H2_ := (Option.bind_some _ _).symm.trans H; with_reducible exact H2_) | with_reducible exact H | (rw [hy106]; exact H) | exact H
 have Ny106 := Aside0.mk hy106
 clear hy106
 replace H := Option.bind_eq_some_iff.mp H
 obtain ⟨t109, A60, H⟩ := H
 replace H : (some t109) = some r := H
 have A6 := Aside0.mk A60
 clear A60
 obtain rfl := Option.some.inj H
 go_enter Tryz.func152, Tryz.ntmps152
 go_wp2_with (first | ((with_reducible refine gate_callee (f := 90) rfl ?_); refine gl_ (some 8) Tryz.func90 #[.bool (decide ((l0.length : Int) > 96)), .int .i64 5] ?_; (with_reducible refine (market_when.calls (decide ((l0.length : Int) > 96)) 5 t101 _ A3.out).mono ?_); rintro e w' ⟨rfl, ⟨nd, rfl⟩⟩; refine ⟨_, rfl, ?_⟩) | ((with_reducible refine gate_callee (f := 178) rfl ?_); refine gl_ (some 11) Tryz.func178 #[.slice A0 l0.length c0, .func (.func 27) #[] #[]] ?_; (with_reducible refine (api_Errno_178__market_CheckPrices.calls k _ _ l0 a1 t102 _ ?side1 ?side2 A4.out).mono ?_); (case side1 => exact cs_ HR0.out); (case side2 => exact HC0.out); rintro e w7 ⟨v103, rfl, ho0, hb⟩; refine ⟨_, rfl, ?_⟩; have n0_ := Aside0.mk (Kd.R_lower ho0 (below_size (ws_ HB.out))); have n1_ := Aside0.mk (below_step (ws_ HB.out) hb); clear HB; have HO104 := n0_; have HB := n1_; clear n0_ n1_; (try clear hb); (try clear hb2); (try clear hk); (try clear hi); (try clear ho0); obtain ⟨Ao8, co8, eo8⟩ := Kd.R_slice HO104.out; subst eo8) | ((with_reducible refine gate_callee (f := 85) rfl ?_); refine gl_ (some 12) Tryz.func85 #[.slice Ao8 t102.length co8] ?_; (with_reducible refine (market_first.calls k _ _ t102 t105 _ ?side1 ?side2 A5.out).mono ?_); (case side1 => repeat (first | exact (Kd.R_reads' HO104.out).2.2 | (with_reducible refine Kd.C_alloc ?_ _) | (with_reducible refine Kd.C_drewN ?_ _) | (with_reducible refine Kd.C_drew ?_))); (case side2 => exact (Kd.R_reads' HO104.out).2.1); rintro e w' ⟨rfl, ⟨nd, rfl⟩⟩; refine ⟨_, rfl, ?_⟩) | ((with_reducible refine gate_dst (N := 13) rfl ?_); refine Kd.R_lit (Kd.int .i64) _ 28 ?hg (N := 13) ?hd (xs := ([t101, t105] : List Int)) (inner := [.int .i64 t101, .int .i64 t105]) (ok := fun _ => True) (okp := fun _ => True) ?hr ?hp (fun _ hk => hk) trivial (Below.refl _ _) (Nat.le_refl _) (by simp) ?_; (case hd => rfl); (case hg => rfl); (case hr => first | (go_simp; done) | (go_simp; rfl)); (case hp => exact (Reps.one (show Kd.M (Kd.int .i64) _ _ _ t101 [.int .i64 t101] from rfl) (Reps.one (show Kd.M (Kd.int .i64) _ _ _ t105 [.int .i64 t105] from rfl) (Reps.none _ _)))); intro v107 w9 ho10 hb hg_ hnew_; clear hg_ hnew_; (first | rw [← Ny106.out] at ho10 | (simp only [Int.reduceToNat] at ho10; rw [← Ny106.out] at ho10)); have n0_ := Aside0.mk (Kd.R_elder' (rs_ HO104.out) (Kd.R_base ho10) hb); have n1_ := Aside0.mk (Kd.R_lower (Kd.R_new' ho10 (Kd.R_lt (rs_ HO104.out))) (below_size (ws_ HB.out))); have n2_ := Aside0.mk (below_step (ws_ HB.out) hb); clear HO104; clear HB; have HO104 := n0_; have HO108 := n1_; have HB := n2_; clear n0_ n1_ n2_; clear hb ho10; obtain ⟨Ao11, co11, eo11⟩ := Kd.R_slice HO108.out; subst eo11) | ((with_reducible refine gate_callee (f := 85) rfl ?_); refine gl_ (some 14) Tryz.func85 #[.slice Ao11 y106.length co11] ?_; (with_reducible refine (market_first.calls k _ _ y106 t109 _ ?side1 ?side2 A6.out).mono ?_); (case side1 => repeat (first | exact (Kd.R_reads' HO108.out).2.2 | (with_reducible refine Kd.C_alloc ?_ _) | (with_reducible refine Kd.C_drewN ?_ _) | (with_reducible refine Kd.C_drew ?_))); (case side2 => exact (Kd.R_reads' HO108.out).2.1); rintro e w' ⟨rfl, ⟨nd, rfl⟩⟩; refine ⟨_, rfl, ?_⟩))
 go_ret
 exact ⟨by first | rfl | (simp [errW_none, errW_some] <;> rfl) | (simp [*, errW_none, errW_some] <;> rfl), by repeat (first | (with_reducible first | exact HB.out | apply below_alloc | apply pw_below_drewN | apply below_drew1) | exact HB.out)⟩
/-! ### market_settle: function 121 -/
def market_settle.l0 : Nat → List (S31) → List (S110) → List (S86) → Int → Int → Option ((List (S110)) × Int)
 | 0, _, _, _, _, _ => none
 | k + 1, x1, x7, x25, x26, x27 => if x27 < x26 then (if 0 ≤ x27 then (if x27 < (x25.length : Int) then (if x27 < (x1.length : Int) then ((market_Quarter_row.f ((rd_T86 x25 x27).f0) ((rd_T86 x25 x27).f1) ((rd_T86 x25 x27).f2) ((rd_T86 x25 x27).f3) ((rd_T86 x25 x27).f4) ((rd_T31 x1 x27).f0) ((rd_T31 x1 x27).f1) ((rd_T31 x1 x27).f2)).bind fun bt111 => (if x7.length < 8796093022208 then (market_settle.l0 k x1 (x7 ++ [(⟨bt111.1, bt111.2⟩ : S110)]) x25 x26 (wrap64 (x27 + 1))) else (none))) else (none)) else (none)) else (none)) else (some (x7, 0))
def market_settle.f (k : Nat) (l0 : List (S86)) (l1 : List (S31)) : Option ((List (S110)) × Int) := (market_Quarter__market_CheckQuarter.f k l0 ()).bind fun t101 => ((market_Prices__market_CheckPrices.f k l1 ()).bind fun t102 => ((market_when.f ((l0.length : Int) != (l1.length : Int)) 2).bind fun t103 => ((market_first.f k (([t101, t102, t103] : List Int))).bind fun t107 => (if t107 = 0 then (market_settle.l0 k l1 ([] : List (S110)) l0 (l0.length : Int) 0) else (some (([] : List (S110)), t107))))))
def market_settle.T8 : Bool × List (List Nat × List Nat) := (true, [([], []), ([], []), ([], []), ([], []), ([2, 3], [2, 3]), ([4], [4]), ([1, 5], [1, 5]), ([6], [6]), ([0, 7, 6], [0, 7]), ([8, 8, 0, 1, 2, 3, 4, 5, 6, 7, 8], [0, 8])])
def market_settle.B8 : List Nat := [0, 0, 0, 0, 12, 28, 62, 126, 255, 511]
theorem market_settle.tab8 : rtab .any (opsOf Tryz.f121 8) = market_settle.T8 := by kernel_rfl
theorem market_settle.bits8 : waitsOk market_settle.T8.2 market_settle.B8 = true := by kernel_rfl
set_option maxHeartbeats 8000000 in
set_option maxRecDepth 100000 in
theorem market_settle.calls (k : Nat) (A0 : Option Addr) (c0 : Nat) (l0 : List (S86)) (A1 : Option Addr) (c1 : Nat) (l1 : List (S31)) (r1 : List (S110)) (r2 : Int) (w : World) (hr0 : Kd.C k86 w A0 l0.length l0) (hc0 : l0.length ≤ c0) (hr1 : Kd.C k31 w A1 l1.length l1) (hc1 : l1.length ≤ c1) (h : market_settle.f k l0 l1 = some (r1, r2)) :
  Calls Tryz.prog 121 #[.slice A0 l0.length c0, .slice A1 l1.length c1] w fun e w' => ∃ v0_ : Value, e = .returned (.tuple #[v0_, .int .i64 r2]) ∧ Kd.R k110 110 w' w.heap.size (fun _ => True) v0_ r1 ∧ Below w.heap.size w w' := by
 have hu86 := Tryz.underlying86
 have hu31 := Tryz.underlying31
 have HR0 := Aside0.mk hr0
 have HC0 := Aside0.mk hc0
 clear hr0 hc0
 have HR1 := Aside0.mk hr1
 have HC1 := Aside0.mk hc1
 clear hr1 hc1
 have HB := Aside0.mk (Below.refl w.heap.size w)
 have H : ((market_Quarter__market_CheckQuarter.f k l0 ()).bind fun t101 => ((market_Prices__market_CheckPrices.f k l1 ()).bind fun t102 => ((market_when.f ((l0.length : Int) != (l1.length : Int)) 2).bind fun t103 => ((market_first.f k (([t101, t102, t103] : List Int))).bind fun t107 => (if t107 = 0 then (market_settle.l0 k l1 ([] : List (S110)) l0 (l0.length : Int) 0) else (some (([] : List (S110)), t107))))))) = some (r1, r2) := h
 clear h
 replace H := Option.bind_eq_some_iff.mp H
 obtain ⟨t101, A30, H⟩ := H
 replace H : ((market_Prices__market_CheckPrices.f k l1 ()).bind fun t102 => ((market_when.f ((l0.length : Int) != (l1.length : Int)) 2).bind fun t103 => ((market_first.f k (([t101, t102, t103] : List Int))).bind fun t107 => (if t107 = 0 then (market_settle.l0 k l1 ([] : List (S110)) l0 (l0.length : Int) 0) else (some (([] : List (S110)), t107)))))) = some (r1, r2) := H
 have A3 := Aside0.mk A30
 clear A30
 replace H := Option.bind_eq_some_iff.mp H
 obtain ⟨t102, A40, H⟩ := H
 replace H : ((market_when.f ((l0.length : Int) != (l1.length : Int)) 2).bind fun t103 => ((market_first.f k (([t101, t102, t103] : List Int))).bind fun t107 => (if t107 = 0 then (market_settle.l0 k l1 ([] : List (S110)) l0 (l0.length : Int) 0) else (some (([] : List (S110)), t107))))) = some (r1, r2) := H
 have A4 := Aside0.mk A40
 clear A40
 replace H := Option.bind_eq_some_iff.mp H
 obtain ⟨t103, A50, H⟩ := H
 replace H : ((market_first.f k (([t101, t102, t103] : List Int))).bind fun t107 => (if t107 = 0 then (market_settle.l0 k l1 ([] : List (S110)) l0 (l0.length : Int) 0) else (some (([] : List (S110)), t107)))) = some (r1, r2) := H
 have A5 := Aside0.mk A50
 clear A50
 obtain ⟨y104, hy104⟩ : ∃ y_ : List Int, y_ = (([t101, t102, t103] : List Int)) := ⟨_, rfl⟩
 replace H : ((market_first.f k y104).bind fun t107 => (if t107 = 0 then (market_settle.l0 k l1 ([] : List (S110)) l0 (l0.length : Int) 0) else (some (([] : List (S110)), t107)))) = some (r1, r2) := by first | (rw [hy104]; with_reducible exact H) | (have H2_ := (Option.bind_some _ _).symm.trans H; rw [hy104]; with_reducible exact H2_) | (have H2_ := (Option.bind_some _ _).symm.trans H; with_reducible exact H2_) | with_reducible exact H | (rw [hy104]; exact H) | exact H
 have Ny104 := Aside0.mk hy104
 clear hy104
 replace H := Option.bind_eq_some_iff.mp H
 obtain ⟨t107, A60, H⟩ := H
 replace H : (if t107 = 0 then (market_settle.l0 k l1 ([] : List (S110)) l0 (l0.length : Int) 0) else (some (([] : List (S110)), t107))) = some (r1, r2) := H
 have A6 := Aside0.mk A60
 clear A60
 by_cases c7 : t107 = 0
 ·rw [if_pos c7] at H
  have c7b0 : (t107 == 0) = true := beq_iff_eq.mpr c7
  have c7b1 : (t107 != 0) = false := bne_eq_false_iff_eq.mpr c7
  clear c7
  have H' := Aside0.mk H
  clear H
  go_enter Tryz.func121, Tryz.ntmps121
  go_wp2_with (first | ((with_reducible refine gate_callee (f := 132) rfl ?_); refine gl_ (some 11) Tryz.func132 #[.slice A0 l0.length c0, .func (.func 59) #[] #[]] ?_; (with_reducible refine (market_Quarter__market_CheckQuarter.calls k _ _ l0 () t101 _ ?side1 ?side2 A3.out).mono ?_); (case side1 => exact cs_ HR0.out); (case side2 => exact HC0.out); rintro e w8 ⟨rfl, hb⟩; refine ⟨_, rfl, ?_⟩; have n0_ := Aside0.mk (below_step (ws_ HB.out) hb); clear HB; have HB := n0_; clear n0_; (try clear hb); (try clear hb2); (try clear hk); (try clear hi)) | ((with_reducible refine gate_callee (f := 152) rfl ?_); refine gl_ (some 13) Tryz.func152 #[.slice A1 l1.length c1, .func (.func 27) #[] #[]] ?_; (with_reducible refine (market_Prices__market_CheckPrices.calls k _ _ l1 () t102 _ ?side1 ?side2 A4.out).mono ?_); (case side1 => exact cs_ (Kd.C_below HR1.out HB.out)); (case side2 => exact HC1.out); rintro e w9 ⟨rfl, hb⟩; refine ⟨_, rfl, ?_⟩; have n0_ := Aside0.mk (below_step (ws_ HB.out) hb); clear HB; have HB := n0_; clear n0_; (try clear hb); (try clear hb2); (try clear hk); (try clear hi)) | ((with_reducible refine gate_callee (f := 90) rfl ?_); refine gl_ (some 19) Tryz.func90 #[.bool ((l0.length : Int) != (l1.length : Int)), .int .i64 2] ?_; (with_reducible refine (market_when.calls ((l0.length : Int) != (l1.length : Int)) 2 t103 _ A5.out).mono ?_); rintro e w' ⟨rfl, ⟨nd, rfl⟩⟩; refine ⟨_, rfl, ?_⟩) | ((with_reducible refine gate_dst (N := 20) rfl ?_); refine Kd.R_lit (Kd.int .i64) _ 28 ?hg (N := 20) ?hd (xs := ([t101, t102, t103] : List Int)) (inner := [.int .i64 t101, .int .i64 t102, .int .i64 t103]) (ok := fun _ => True) (okp := fun _ => True) ?hr ?hp (fun _ hk => hk) trivial (Below.refl _ _) (Nat.le_refl _) (by simp) ?_; (case hd => rfl); (case hg => rfl); (case hr => first | (go_simp; done) | (go_simp; rfl)); (case hp => exact (Reps.one (show Kd.M (Kd.int .i64) _ _ _ t101 [.int .i64 t101] from rfl) (Reps.one (show Kd.M (Kd.int .i64) _ _ _ t102 [.int .i64 t102] from rfl) (Reps.one (show Kd.M (Kd.int .i64) _ _ _ t103 [.int .i64 t103] from rfl) (Reps.none _ _))))); intro v105 w10 ho11 hb hg_ hnew_; clear hg_ hnew_; (first | rw [← Ny104.out] at ho11 | (simp only [Int.reduceToNat] at ho11; rw [← Ny104.out] at ho11)); have n0_ := Aside0.mk (Kd.R_lower ho11 (below_size (ws_ HB.out))); have n1_ := Aside0.mk (below_step (ws_ HB.out) hb); clear HB; have HO106 := n0_; have HB := n1_; clear n0_ n1_; clear hb ho11; obtain ⟨Ao12, co12, eo12⟩ := Kd.R_slice HO106.out; subst eo12) | ((with_reducible refine gate_callee (f := 85) rfl ?_); refine gl_ (some 21) Tryz.func85 #[.slice Ao12 y104.length co12] ?_; (with_reducible refine (market_first.calls k _ _ y104 t107 _ ?side1 ?side2 A6.out).mono ?_); (case side1 => repeat (first | exact (Kd.R_reads' HO106.out).2.2 | (with_reducible refine Kd.C_alloc ?_ _) | (with_reducible refine Kd.C_drewN ?_ _) | (with_reducible refine Kd.C_drew ?_))); (case side2 => exact (Kd.R_reads' HO106.out).2.1); rintro e w' ⟨rfl, ⟨nd, rfl⟩⟩; refine ⟨_, rfl, ?_⟩))
  go_loopg [7, 27] k (fun kq v7 v27 w' => ∃ (x7_1 : List (S110)) (x27_1 : Int), v27 = .int .i64 x27_1 ∧ Aside0 (market_settle.l0 kq l1 x7_1 l0 (l0.length : Int) x27_1 = some (r1, r2)) ∧ Aside0 (kq ≤ k) ∧ Aside0 (Kd.R k110 110 w' w.heap.size (fun _ => True) v7 x7_1) ∧ Aside0 (Below w.heap.size w w'))
  case atStart => exact ⟨(([] : List (S110))), (0), (by first | rfl | (simp; done) | (simp [*]; done)), H', ⟨Nat.le_refl _⟩, ⟨by first | exact Kd.R_nil _ _ _ _ _ | exact Kd.N_nil _ _ _ _ _ | exact Kd.V_nil _ _ _ _ _ | exact Kd.Q_nil _ _ _ _ _ | exact Kd.S_nil _ _ _ _ _⟩, ⟨by repeat (first | (with_reducible first | exact HB.out | apply below_alloc | apply pw_below_drewN | apply below_drew1) | exact HB.out)⟩⟩
  case round =>
   clear H'
   try clear c1
   try clear p2
   try clear c7
   try clear c7b0
   try clear c7b1
   try clear c8
   try clear c9
   try clear c12
   obtain ⟨x7_1, x27_1, rfl, HA, HK1, HO_7, HB⟩ := hrel
   cases gk with
   | zero => exact absurd HA.out (by simp [market_settle.l0])
   | succ k1 =>
    have H := HA.out
    clear HA
    simp only [market_settle.l0] at H
    by_cases c13 : x27_1 < (l0.length : Int)
    ·rw [if_pos c13] at H
     have c13b0 : decide (x27_1 < (l0.length : Int)) = true := decide_eq_true c13
     clear c13
     by_cases c14 : 0 ≤ x27_1
     ·rw [if_pos c14] at H
      have c14b0 : decide (0 ≤ x27_1) = true := decide_eq_true c14
      clear c14
      by_cases c15 : x27_1 < (l0.length : Int)
      ·rw [if_pos c15] at H
       have c15b0 : decide (x27_1 < (l0.length : Int)) = true := decide_eq_true c15
       clear c15
       by_cases c16 : x27_1 < (l1.length : Int)
       ·rw [if_pos c16] at H
        have c16b0 : decide (x27_1 < (l1.length : Int)) = true := decide_eq_true c16
        clear c16
        replace H := Option.bind_eq_some_iff.mp H
        obtain ⟨⟨t111, t112⟩, A170, H⟩ := H
        replace H : (if x7_1.length < 8796093022208 then (market_settle.l0 k1 l1 (x7_1 ++ [(⟨t111, t112⟩ : S110)]) l0 (l0.length : Int) (wrap64 (x27_1 + 1))) else (none)) = some (r1, r2) := H
        have A17 := Aside0.mk A170
        clear A170
        by_cases c18 : x7_1.length < 8796093022208
        ·rw [if_pos c18] at H
         have LMc18 := Aside0.mk c18
         clear c18
         obtain ⟨y113, hy113⟩ : ∃ y_ : List (S110), y_ = (x7_1 ++ [(⟨t111, t112⟩ : S110)]) := ⟨_, rfl⟩
         replace H : (market_settle.l0 k1 l1 y113 l0 (l0.length : Int) (wrap64 (x27_1 + 1))) = some (r1, r2) := by first | (rw [hy113]; with_reducible exact H) | (have H2_ := (Option.bind_some _ _).symm.trans H; rw [hy113]; with_reducible exact H2_) | (have H2_ := (Option.bind_some _ _).symm.trans H; with_reducible exact H2_) | with_reducible exact H | (rw [hy113]; exact H) | exact H
         have Ny113 := Aside0.mk hy113
         clear hy113
         have H' := Aside0.mk H
         clear H
         have p108 : 0 ≤ (x27_1 : Int) := of_decide_eq_true (by first | (with_reducible assumption) | assumption)
         have q108 : x27_1 < (l0.length : Int) := of_decide_eq_true (by first | (with_reducible assumption) | assumption)
         obtain ⟨ad108, e108, hx108_0, hx108_1, hx108_2, hx108_3, hx108_4⟩ := at_T86 HR0.out x27_1 p108 q108
         cases e108
         replace hx108_0 := (HB.out.cell (World.block_lt_of_cell? w _ hx108_0)).trans hx108_0
         replace hx108_1 := (HB.out.cell (World.block_lt_of_cell? w _ hx108_1)).trans hx108_1
         replace hx108_2 := (HB.out.cell (World.block_lt_of_cell? w _ hx108_2)).trans hx108_2
         replace hx108_3 := (HB.out.cell (World.block_lt_of_cell? w _ hx108_3)).trans hx108_3
         replace hx108_4 := (HB.out.cell (World.block_lt_of_cell? w _ hx108_4)).trans hx108_4
         replace p108 := eq_true p108
         replace q108 := eq_true q108
         try go_wp2_with (first | ((with_reducible refine gate_dst (N := 9) rfl ?_); refine box_event ?hg (N := 9) ?hd (cs := #[.int .i64 0, .int .i64 0, .int .i64 0, .int .i64 0, .int .i64 0]) (t := 86) ?hr ?_; (case hd => rfl); (case hg => rfl); (case hr => first | (go_simp; done) | (go_simp; rfl)); intro gb109 hg w19 hbox hb; have n0_ := Aside0.mk (Kd.R_below (rs_ HO_7.out) hb); have n1_ := Aside0.mk (below_step (ws_ HB.out) hb); have n2_ := Aside0.mk (hbox); have n3_ := Aside0.mk ((by rw [hg]; exact (below_size (ws_ HB.out)) : w.heap.size ≤ gb109)); have n4_ := Aside0.mk ((by rw [hg]; exact (below_size (ws_ HB.out)) : w.heap.size ≤ gb109)); clear HO_7; clear HB; have HO_7 := n0_; have HB := n1_; have BK109 := n2_; have GW109 := n3_; have GE109 := n4_; clear n0_ n1_ n2_ n3_ n4_; clear hb hbox hg; have hcz20_0 : w19.cell? ⟨gb109, 0, none⟩ = some (.int .i64 0) := (blk_cell BK109.out 0).trans rfl; have hcz20_1 : w19.cell? ⟨gb109, 1, none⟩ = some (.int .i64 0) := (blk_cell BK109.out 1).trans rfl; have hcz20_2 : w19.cell? ⟨gb109, 2, none⟩ = some (.int .i64 0) := (blk_cell BK109.out 2).trans rfl; have hcz20_3 : w19.cell? ⟨gb109, 3, none⟩ = some (.int .i64 0) := (blk_cell BK109.out 3).trans rfl; have hcz20_4 : w19.cell? ⟨gb109, 4, none⟩ = some (.int .i64 0) := (blk_cell BK109.out 4).trans rfl; have hfz20_0 := blk_frozen BK109.out 0; have hfz20_1 := blk_frozen BK109.out 1; have hfz20_2 := blk_frozen BK109.out 2; have hfz20_3 := blk_frozen BK109.out 3; have hfz20_4 := blk_frozen BK109.out 4))
         have n0_ : Aside0 (Kd.R k110 110 (((((w19.setCell ⟨gb109, 0, none⟩ (.int .i64 ((rd_T86 l0 x27_1).f0))).setCell ⟨gb109, 1, none⟩ (.int .i64 ((rd_T86 l0 x27_1).f1))).setCell ⟨gb109, 2, none⟩ (.int .i64 ((rd_T86 l0 x27_1).f2))).setCell ⟨gb109, 3, none⟩ (.int .i64 ((rd_T86 l0 x27_1).f3))).setCell ⟨gb109, 4, none⟩ (.int .i64 ((rd_T86 l0 x27_1).f4))) w.heap.size (fun _ => True) u7 x7_1) := ⟨by (with_reducible repeat (first | apply Kd.R_alloc | apply Kd.R_drewN | apply Kd.R_drew)); exact Kd.R_mono (Kd.R_far (p := ⟨gb109, 4, none⟩) (Kd.R_far (p := ⟨gb109, 3, none⟩) (Kd.R_far (p := ⟨gb109, 2, none⟩) (Kd.R_far (p := ⟨gb109, 1, none⟩) (Kd.R_far (p := ⟨gb109, 0, none⟩) (Kd.R_types HO_7.out BK109.out (by decide)) (fun _ hk => hk.2) (.int .i64 ((rd_T86 l0 x27_1).f0))) (fun _ hk => hk.2) (.int .i64 ((rd_T86 l0 x27_1).f1))) (fun _ hk => hk.2) (.int .i64 ((rd_T86 l0 x27_1).f2))) (fun _ hk => hk.2) (.int .i64 ((rd_T86 l0 x27_1).f3))) (fun _ hk => hk.2) (.int .i64 ((rd_T86 l0 x27_1).f4))) (fun _ hk => trivial)⟩
         have n1_ : Aside0 ((((((w19.setCell ⟨gb109, 0, none⟩ (.int .i64 ((rd_T86 l0 x27_1).f0))).setCell ⟨gb109, 1, none⟩ (.int .i64 ((rd_T86 l0 x27_1).f1))).setCell ⟨gb109, 2, none⟩ (.int .i64 ((rd_T86 l0 x27_1).f2))).setCell ⟨gb109, 3, none⟩ (.int .i64 ((rd_T86 l0 x27_1).f3))).setCell ⟨gb109, 4, none⟩ (.int .i64 ((rd_T86 l0 x27_1).f4))).heap[gb109]? = some (.cells #[.int .i64 ((rd_T86 l0 x27_1).f0), .int .i64 ((rd_T86 l0 x27_1).f1), .int .i64 ((rd_T86 l0 x27_1).f2), .int .i64 ((rd_T86 l0 x27_1).f3), .int .i64 ((rd_T86 l0 x27_1).f4)] 86 (0, 0))) := ⟨by (with_reducible repeat (first | refine blk_drewN ?_ _ | refine blk_drew ?_ | refine blk_alloc ?_ _)); refine blk_put (cs := #[.int .i64 ((rd_T86 l0 x27_1).f0), .int .i64 ((rd_T86 l0 x27_1).f1), .int .i64 ((rd_T86 l0 x27_1).f2), .int .i64 ((rd_T86 l0 x27_1).f3), .int .i64 0]) ?_ 4 _ rfl; (with_reducible repeat (first | refine blk_drewN ?_ _ | refine blk_drew ?_ | refine blk_alloc ?_ _)); refine blk_put (cs := #[.int .i64 ((rd_T86 l0 x27_1).f0), .int .i64 ((rd_T86 l0 x27_1).f1), .int .i64 ((rd_T86 l0 x27_1).f2), .int .i64 0, .int .i64 0]) ?_ 3 _ rfl; (with_reducible repeat (first | refine blk_drewN ?_ _ | refine blk_drew ?_ | refine blk_alloc ?_ _)); refine blk_put (cs := #[.int .i64 ((rd_T86 l0 x27_1).f0), .int .i64 ((rd_T86 l0 x27_1).f1), .int .i64 0, .int .i64 0, .int .i64 0]) ?_ 2 _ rfl; (with_reducible repeat (first | refine blk_drewN ?_ _ | refine blk_drew ?_ | refine blk_alloc ?_ _)); refine blk_put (cs := #[.int .i64 ((rd_T86 l0 x27_1).f0), .int .i64 0, .int .i64 0, .int .i64 0, .int .i64 0]) ?_ 1 _ rfl; (with_reducible repeat (first | refine blk_drewN ?_ _ | refine blk_drew ?_ | refine blk_alloc ?_ _)); refine blk_put (cs := #[.int .i64 0, .int .i64 0, .int .i64 0, .int .i64 0, .int .i64 0]) ?_ 0 _ rfl; (with_reducible repeat (first | refine blk_drewN ?_ _ | refine blk_drew ?_ | refine blk_alloc ?_ _)); exact BK109.out⟩
         have n2_ : Aside0 (Below w.heap.size w (((((w19.setCell ⟨gb109, 0, none⟩ (.int .i64 ((rd_T86 l0 x27_1).f0))).setCell ⟨gb109, 1, none⟩ (.int .i64 ((rd_T86 l0 x27_1).f1))).setCell ⟨gb109, 2, none⟩ (.int .i64 ((rd_T86 l0 x27_1).f2))).setCell ⟨gb109, 3, none⟩ (.int .i64 ((rd_T86 l0 x27_1).f3))).setCell ⟨gb109, 4, none⟩ (.int .i64 ((rd_T86 l0 x27_1).f4)))) := ⟨by repeat (first | (with_reducible first | exact HB.out | apply below_alloc | apply pw_below_drewN | apply below_drew1 | refine below_set ?_ GE109.out) | exact HB.out)⟩
         (try clear HO_7)
         (try clear BK109)
         (try clear HB)
         generalize (((((w19.setCell ⟨gb109, 0, none⟩ (.int .i64 ((rd_T86 l0 x27_1).f0))).setCell ⟨gb109, 1, none⟩ (.int .i64 ((rd_T86 l0 x27_1).f1))).setCell ⟨gb109, 2, none⟩ (.int .i64 ((rd_T86 l0 x27_1).f2))).setCell ⟨gb109, 3, none⟩ (.int .i64 ((rd_T86 l0 x27_1).f3))).setCell ⟨gb109, 4, none⟩ (.int .i64 ((rd_T86 l0 x27_1).f4))) = w21 at n0_ n1_ n2_ ⊢
         have HO_7 := n0_
         have BK109 := n1_
         have HB := n2_
         clear n0_ n1_ n2_
         have n0_ := Aside0.mk (Kd.R_drew HO_7.out)
         have n1_ := Aside0.mk (blk_drew BK109.out)
         have n2_ := Aside0.mk (below_drew1 HB.out)
         clear HO_7
         clear BK109
         clear HB
         have HO_7 := n0_
         have BK109 := n1_
         have HB := n2_
         clear n0_ n1_ n2_
         have p110 : 0 ≤ (x27_1 : Int) := of_decide_eq_true (by first | (with_reducible assumption) | assumption)
         have q110 : x27_1 < (l1.length : Int) := of_decide_eq_true (by first | (with_reducible assumption) | assumption)
         obtain ⟨ad110, e110, hx110_0, hx110_1, hx110_2⟩ := at_T31 HR1.out x27_1 p110 q110
         have hw110_2 := hx110_2
         have hw110_1 := hx110_1
         have hw110_0 := hx110_0
         cases e110
         replace hx110_0 := (HB.out.cell (World.block_lt_of_cell? w _ hx110_0)).trans hx110_0
         replace hx110_1 := (HB.out.cell (World.block_lt_of_cell? w _ hx110_1)).trans hx110_1
         replace hx110_2 := (HB.out.cell (World.block_lt_of_cell? w _ hx110_2)).trans hx110_2
         replace p110 := eq_true p110
         replace q110 := eq_true q110
         refine start_ (n := 10) (S := fun w' => w'.cell? ⟨gb109, 0, none⟩ = some (.int .i64 ((rd_T86 l0 x27_1).f0)) ∧ w'.cell? ⟨gb109, 1, none⟩ = some (.int .i64 ((rd_T86 l0 x27_1).f1)) ∧ w'.cell? ⟨gb109, 2, none⟩ = some (.int .i64 ((rd_T86 l0 x27_1).f2)) ∧ w'.cell? ⟨gb109, 3, none⟩ = some (.int .i64 ((rd_T86 l0 x27_1).f3)) ∧ w'.cell? ⟨gb109, 4, none⟩ = some (.int .i64 ((rd_T86 l0 x27_1).f4)) ∧ w'.cell? (ad110.add ((x27_1).toNat * 3)) = some (.int .i64 ((rd_T31 l1 x27_1).f0)) ∧ w'.cell? ⟨(ad110.add ((x27_1).toNat * 3)).block, (ad110.add ((x27_1).toNat * 3)).off + 1, none⟩ = some (.int .i64 ((rd_T31 l1 x27_1).f1)) ∧ w'.cell? ⟨(ad110.add ((x27_1).toNat * 3)).block, (ad110.add ((x27_1).toNat * 3)).off + 2, none⟩ = some (.int .i64 ((rd_T31 l1 x27_1).f2))) (ds := []) #[false, false, false, false, false, false, false, false, false, false] (by kernel_rfl) rfl rfl ⟨(blk_cell BK109.out 0).trans rfl, (blk_cell BK109.out 1).trans rfl, (blk_cell BK109.out 2).trans rfl, (blk_cell BK109.out 3).trans rfl, (blk_cell BK109.out 4).trans rfl, ((HB.out.cell (World.block_lt_of_cell? w _ hw110_0)).trans hw110_0), ((HB.out.cell (World.block_lt_of_cell? w _ hw110_1)).trans hw110_1), ((HB.out.cell (World.block_lt_of_cell? w _ hw110_2)).trans hw110_2)⟩ (fun hHeld => ?_); refine with_tabW market_settle.tab8 market_settle.bits8 (fun HT_ HW_ => ?_)
         generalize w21.drew = w22 at HO_7 BK109 HB hx110_0 hx110_1 hx110_2 hHeld ⊢
         refine pv_ 0 32 #[true, false, false, false, false, false, false, false, false, false] (any_of HT_.out (by kernel_rfl)) ?_
         refine pv_ 2 34 #[true, false, true, false, false, false, false, false, false, false] (any_of HT_.out (by kernel_rfl)) ?_
         refine pv_ 3 35 #[true, false, true, true, false, false, false, false, false, false] (any_of HT_.out (by kernel_rfl)) ?_
         refine pv_ 4 36 #[true, false, true, true, true, false, false, false, false, false] (any_of HT_.out (by kernel_rfl)) ?_
         refine take_ (i := 1) (N := some 33) (v := ?_) (a' := ?_) #[true, true, true, true, true, false, false, false, false, false] rfl rfl (take_ofW HT_.out HW_.out (by kernel_rfl)) (fun _ _ _ h => h) (Or.inl ⟨by rfl, ?_⟩) hHeld ?_ ?_
         rotate_left
         ·rintro w' ⟨s0, s1, s2, s3, s4, s5, s6, s7⟩
          go_simp
          with_reducible rfl
         rotate_left
         ·simp only [Act.put, List.setIfInBounds_toArray, List.set_cons_zero, List.set_cons_succ, i64_w, i32_w]
          rfl
         refine take_ (i := 5) (N := some 37) (v := ?_) (a' := ?_) #[true, true, true, true, true, true, false, false, false, false] rfl rfl (take_ofW HT_.out HW_.out (by kernel_rfl)) (fun _ _ _ h => h) (Or.inl ⟨by rfl, ?_⟩) hHeld ?_ ?_
         rotate_left
         ·rintro w' ⟨s0, s1, s2, s3, s4, s5, s6, s7⟩
          go_simp
          with_reducible rfl
         rotate_left
         ·simp only [Act.put, List.setIfInBounds_toArray, List.set_cons_zero, List.set_cons_succ, i64_w, i32_w]
          rfl
         refine one_ (i := 6) (N := some 38) #[true, true, true, true, true, true, true, false, false, false] rfl rfl (one_of HT_.out (by kernel_rfl)) (by decide) (fun K hK => ?_)
         refine goes_ Tryz.func120 (by kernel_rfl) rfl #[.agg #[.int .i64 ((rd_T86 l0 x27_1).f0), .int .i64 ((rd_T86 l0 x27_1).f1), .int .i64 ((rd_T86 l0 x27_1).f2), .int .i64 ((rd_T86 l0 x27_1).f3), .int .i64 ((rd_T86 l0 x27_1).f4)], .agg #[.int .i64 ((rd_T31 l1 x27_1).f0), .int .i64 ((rd_T31 l1 x27_1).f1), .int .i64 ((rd_T31 l1 x27_1).f2)]] (by rfl) rfl rfl (by (try simp only [List.map_toArray, List.map_cons, List.map_nil]); first | done | rfl | (simp only [List.length_drop, List.length_take]; rfl)) ?_
         with_reducible refine (market_Quarter_row.calls ((rd_T86 l0 x27_1).f0) ((rd_T86 l0 x27_1).f1) ((rd_T86 l0 x27_1).f2) ((rd_T86 l0 x27_1).f3) ((rd_T86 l0 x27_1).f4) ((rd_T31 l1 x27_1).f0) ((rd_T31 l1 x27_1).f1) ((rd_T31 l1 x27_1).f2) t111 t112 _ A17.out).mono ?_
         rintro e w23 ⟨rfl, hb⟩
         refine ⟨_, rfl, ?_⟩
         have n0_ := Aside0.mk (Kd.R_below (rs_ HO_7.out) hb)
         have n1_ := Aside0.mk (blk_below (g := gb109) (o := .cells #[.int .i64 ((rd_T86 l0 x27_1).f0), .int .i64 ((rd_T86 l0 x27_1).f1), .int .i64 ((rd_T86 l0 x27_1).f2), .int .i64 ((rd_T86 l0 x27_1).f3), .int .i64 ((rd_T86 l0 x27_1).f4)] 86 (0, 0)) (bs_ BK109.out) hb)
         have n2_ := Aside0.mk (below_step (wg_ HB.out GE109.out) hb)
         clear HO_7
         clear BK109
         clear HB
         have HO_7 := n0_
         have BK109 := n1_
         have HB := n2_
         clear n0_ n1_ n2_
         (try clear hb)
         (try clear hb2)
         (try clear hk)
         (try clear hi)
         refine hK.out _ _ ⟨(blk_cell BK109.out 0).trans rfl, (blk_cell BK109.out 1).trans rfl, (blk_cell BK109.out 2).trans rfl, (blk_cell BK109.out 3).trans rfl, (blk_cell BK109.out 4).trans rfl, ((HB.out.cell (World.block_lt_of_cell? w _ hw110_0)).trans hw110_0), ((HB.out.cell (World.block_lt_of_cell? w _ hw110_1)).trans hw110_1), ((HB.out.cell (World.block_lt_of_cell? w _ hw110_2)).trans hw110_2)⟩ (fun hHeld => ?_)
         clear hK K
         refine norm_ (a' := ?_) ?_ ?_
         rotate_left
         ·show Act.put _ (some 38) _ = _
          simp only [Act.put, List.setIfInBounds_toArray, List.set_cons_zero, List.set_cons_succ, i64_w, i32_w]
          rfl
         refine one_ (i := 7) (N := some 39) #[true, true, true, true, true, true, true, true, false, false] rfl rfl (one_of HT_.out (by kernel_rfl)) (by decide) (fun K hK => ?_)
         refine value_ (w1 := ?_) (v := ?_) (by rfl) rfl ?_ ?_
         rotate_left 2
         ·go_simp
          constructor
          ·rfl
          ·rfl
         refine hK.out _ _ ⟨(blk_cell (blk_alloc BK109.out _) 0).trans rfl, (blk_cell (blk_alloc BK109.out _) 1).trans rfl, (blk_cell (blk_alloc BK109.out _) 2).trans rfl, (blk_cell (blk_alloc BK109.out _) 3).trans rfl, (blk_cell (blk_alloc BK109.out _) 4).trans rfl, (World.cell?_alloc_lt _ _ _ (World.block_lt_of_cell? _ _ (((HB.out.cell (World.block_lt_of_cell? w _ hw110_0)).trans hw110_0)))).trans (((HB.out.cell (World.block_lt_of_cell? w _ hw110_0)).trans hw110_0)), (World.cell?_alloc_lt _ _ _ (World.block_lt_of_cell? _ _ (((HB.out.cell (World.block_lt_of_cell? w _ hw110_1)).trans hw110_1)))).trans (((HB.out.cell (World.block_lt_of_cell? w _ hw110_1)).trans hw110_1)), (World.cell?_alloc_lt _ _ _ (World.block_lt_of_cell? _ _ (((HB.out.cell (World.block_lt_of_cell? w _ hw110_2)).trans hw110_2)))).trans (((HB.out.cell (World.block_lt_of_cell? w _ hw110_2)).trans hw110_2))⟩ (fun hHeld => ?_)
         clear hK K
         refine norm_ (a' := ?_) ?_ ?_
         rotate_left
         ·show Act.put _ (some 39) _ = _
          simp only [Act.put, List.setIfInBounds_toArray, List.set_cons_zero, List.set_cons_succ, i64_w, i32_w]
          rfl
         refine one_ (i := 8) (N := some 40) #[true, true, true, true, true, true, true, true, true, false] rfl rfl (one_of HT_.out (by kernel_rfl)) (by decide) (fun K hK => ?_)
         refine Kd.R_append_step k110 (w0 := w) w.heap.size (by rfl) (.tmp 32) (.tmp 39) 87 110 (.agg #[(.int .i64 0), (.int .i64 0)]) 16 rfl Tryz.underlying87 info110 rfl (by decide) (by omega) u7 x7_1 (⟨t111, t112⟩ : S110) [.int .i64 t111, .int .i64 t112] (fun _ => True) (fun _ => False) rfl rfl ?aP (fun _ hk => hk.elim) ?aF ?aO ?aB ?aS ?aL ?_
         (case aP => exact k110_mkM _ _ _ (⟨t111, t112⟩ : S110))
         (case aB => exact (wg_ HB.out GE109.out))
         (case aF => exact (fun _ _ => trivial))
         (case aO => exact (rs_ HO_7.out))
         (case aS => exact (below_size (wg_ HB.out GE109.out)))
         (case aL => have := LMc18.out; omega)
         intro v114 w24 ho hb hg hat
         rw [← Ny113.out] at ho
         have n0_ := Aside0.mk (blk_grown (g := gb109) (o := .cells #[.int .i64 ((rd_T86 l0 x27_1).f0), .int .i64 ((rd_T86 l0 x27_1).f1), .int .i64 ((rd_T86 l0 x27_1).f2), .int .i64 ((rd_T86 l0 x27_1).f3), .int .i64 ((rd_T86 l0 x27_1).f4)] 86 (0, 0)) (bs_ BK109.out) hg (Kd.R_ne HO_7.out BK109.out (by decide)))
         have n1_ := Aside0.mk (hb)
         have n2_ := Aside0.mk (ho)
         clear BK109
         clear HB
         clear HO_7
         have BK109 := n0_
         have HB := n1_
         have HO115 := n2_
         clear n0_ n1_ n2_
         clear ho hb hg hat
         refine hK.out _ _ ⟨(blk_cell BK109.out 0).trans rfl, (blk_cell BK109.out 1).trans rfl, (blk_cell BK109.out 2).trans rfl, (blk_cell BK109.out 3).trans rfl, (blk_cell BK109.out 4).trans rfl, ((HB.out.cell (World.block_lt_of_cell? w _ hw110_0)).trans hw110_0), ((HB.out.cell (World.block_lt_of_cell? w _ hw110_1)).trans hw110_1), ((HB.out.cell (World.block_lt_of_cell? w _ hw110_2)).trans hw110_2)⟩ (fun hHeld => ?_)
         clear hK K
         refine norm_ (a' := ?_) ?_ ?_
         rotate_left
         ·show Act.put _ (some 40) _ = _
          simp only [Act.put, List.setIfInBounds_toArray, List.set_cons_zero, List.set_cons_succ, i64_w, i32_w]
          rfl
         refine pv_ 9 7 #[true, true, true, true, true, true, true, true, true, true] (any_of HT_.out (by kernel_rfl)) ?_
         refine done_ (done_of HT_.out (by kernel_rfl)) ?_
         try go_wp2
         go_roundg k1
         case measure => have := HK1.out; omega
         case rel => exact ⟨(y113), (wrap64 (x27_1 + 1)), (by first | rfl | (simp; done) | (simp [*]; done)), H', ⟨by have := HK1.out; omega⟩, ⟨by (with_reducible repeat (first | apply Kd.R_alloc | apply Kd.R_drewN | apply Kd.R_drew)); exact HO115.out⟩, ⟨by repeat (first | (with_reducible first | exact HB.out | apply below_alloc | apply pw_below_drewN | apply below_drew1 | refine below_set ?_ GE109.out) | exact HB.out)⟩⟩
        ·rw [if_neg c18] at H
         exact absurd H (by simp)
       ·rw [if_neg c16] at H
        exact absurd H (by simp)
      ·rw [if_neg c15] at H
       exact absurd H (by simp)
     ·rw [if_neg c14] at H
      exact absurd H (by simp)
    ·rw [if_neg c13] at H
     have c13b0 : decide (x27_1 < (l0.length : Int)) = false := decide_eq_false c13
     clear c13
     simp only [Option.some.injEq, Prod.mk.injEq] at H
     obtain ⟨rfl, rfl⟩ := H
     go_wp2
     go_ret2
     exact ⟨_, by first | rfl | (simp [errW_none, errW_some] <;> rfl) | (simp [*, errW_none, errW_some] <;> rfl), by (with_reducible repeat (first | apply Kd.R_alloc | apply Kd.R_drewN | apply Kd.R_drew)); exact HO_7.out, by repeat (first | (with_reducible first | exact HB.out | apply below_alloc | apply pw_below_drewN | apply below_drew1) | exact HB.out)⟩
 ·rw [if_neg c7] at H
  have c7b0 : (t107 == 0) = false := beq_eq_false_iff_ne.mpr c7
  have c7b1 : (t107 != 0) = true := bne_iff_ne.mpr c7
  simp only [Option.some.injEq, Prod.mk.injEq] at H
  obtain ⟨rfl, rfl⟩ := H
  go_enter Tryz.func121, Tryz.ntmps121
  go_wp2_with (first | ((with_reducible refine gate_callee (f := 132) rfl ?_); refine gl_ (some 11) Tryz.func132 #[.slice A0 l0.length c0, .func (.func 59) #[] #[]] ?_; (with_reducible refine (market_Quarter__market_CheckQuarter.calls k _ _ l0 () t101 _ ?side1 ?side2 A3.out).mono ?_); (case side1 => exact cs_ HR0.out); (case side2 => exact HC0.out); rintro e w25 ⟨rfl, hb⟩; refine ⟨_, rfl, ?_⟩; have n0_ := Aside0.mk (below_step (ws_ HB.out) hb); clear HB; have HB := n0_; clear n0_; (try clear hb); (try clear hb2); (try clear hk); (try clear hi)) | ((with_reducible refine gate_callee (f := 152) rfl ?_); refine gl_ (some 13) Tryz.func152 #[.slice A1 l1.length c1, .func (.func 27) #[] #[]] ?_; (with_reducible refine (market_Prices__market_CheckPrices.calls k _ _ l1 () t102 _ ?side1 ?side2 A4.out).mono ?_); (case side1 => exact cs_ (Kd.C_below HR1.out HB.out)); (case side2 => exact HC1.out); rintro e w26 ⟨rfl, hb⟩; refine ⟨_, rfl, ?_⟩; have n0_ := Aside0.mk (below_step (ws_ HB.out) hb); clear HB; have HB := n0_; clear n0_; (try clear hb); (try clear hb2); (try clear hk); (try clear hi)) | ((with_reducible refine gate_callee (f := 90) rfl ?_); refine gl_ (some 19) Tryz.func90 #[.bool ((l0.length : Int) != (l1.length : Int)), .int .i64 2] ?_; (with_reducible refine (market_when.calls ((l0.length : Int) != (l1.length : Int)) 2 t103 _ A5.out).mono ?_); rintro e w' ⟨rfl, ⟨nd, rfl⟩⟩; refine ⟨_, rfl, ?_⟩) | ((with_reducible refine gate_dst (N := 20) rfl ?_); refine Kd.R_lit (Kd.int .i64) _ 28 ?hg (N := 20) ?hd (xs := ([t101, t102, t103] : List Int)) (inner := [.int .i64 t101, .int .i64 t102, .int .i64 t103]) (ok := fun _ => True) (okp := fun _ => True) ?hr ?hp (fun _ hk => hk) trivial (Below.refl _ _) (Nat.le_refl _) (by simp) ?_; (case hd => rfl); (case hg => rfl); (case hr => first | (go_simp; done) | (go_simp; rfl)); (case hp => exact (Reps.one (show Kd.M (Kd.int .i64) _ _ _ t101 [.int .i64 t101] from rfl) (Reps.one (show Kd.M (Kd.int .i64) _ _ _ t102 [.int .i64 t102] from rfl) (Reps.one (show Kd.M (Kd.int .i64) _ _ _ t103 [.int .i64 t103] from rfl) (Reps.none _ _))))); intro v105 w27 ho28 hb hg_ hnew_; clear hg_ hnew_; (first | rw [← Ny104.out] at ho28 | (simp only [Int.reduceToNat] at ho28; rw [← Ny104.out] at ho28)); have n0_ := Aside0.mk (Kd.R_lower ho28 (below_size (ws_ HB.out))); have n1_ := Aside0.mk (below_step (ws_ HB.out) hb); clear HB; have HO106 := n0_; have HB := n1_; clear n0_ n1_; clear hb ho28; obtain ⟨Ao29, co29, eo29⟩ := Kd.R_slice HO106.out; subst eo29) | ((with_reducible refine gate_callee (f := 85) rfl ?_); refine gl_ (some 21) Tryz.func85 #[.slice Ao29 y104.length co29] ?_; (with_reducible refine (market_first.calls k _ _ y104 t107 _ ?side1 ?side2 A6.out).mono ?_); (case side1 => repeat (first | exact (Kd.R_reads' HO106.out).2.2 | (with_reducible refine Kd.C_alloc ?_ _) | (with_reducible refine Kd.C_drewN ?_ _) | (with_reducible refine Kd.C_drew ?_))); (case side2 => exact (Kd.R_reads' HO106.out).2.1); rintro e w' ⟨rfl, ⟨nd, rfl⟩⟩; refine ⟨_, rfl, ?_⟩))
  go_ret2
  exact ⟨_, by first | rfl | (simp [errW_none, errW_some] <;> rfl) | (simp [*, errW_none, errW_some] <;> rfl), by first | exact Kd.R_nil _ _ _ _ _ | exact Kd.N_nil _ _ _ _ _ | exact Kd.V_nil _ _ _ _ _ | exact Kd.Q_nil _ _ _ _ _ | exact Kd.S_nil _ _ _ _ _, by repeat (first | (with_reducible first | exact HB.out | apply below_alloc | apply pw_below_drewN | apply below_drew1) | exact HB.out)⟩
/-! ### market_Settle: function 50 -/
def market_Settle.f (k : Nat) (l0 : List (S86)) (l1 : List (S31)) : Option ((List (S110)) × Int) := (market_settle.f k l0 l1).bind fun bt101 => (some (bt101.1, bt101.2))
set_option maxHeartbeats 8000000 in
set_option maxRecDepth 100000 in
theorem market_Settle.calls (k : Nat) (A0 : Option Addr) (c0 : Nat) (l0 : List (S86)) (A1 : Option Addr) (c1 : Nat) (l1 : List (S31)) (r1 : List (S110)) (r2 : Int) (w : World) (hr0 : Kd.C k86 w A0 l0.length l0) (hc0 : l0.length ≤ c0) (hr1 : Kd.C k31 w A1 l1.length l1) (hc1 : l1.length ≤ c1) (h : market_Settle.f k l0 l1 = some (r1, r2)) :
  Calls Tryz.prog 50 #[.slice A0 l0.length c0, .slice A1 l1.length c1] w fun e w' => ∃ v0_ : Value, e = .returned (.tuple #[v0_, .int .i64 r2]) ∧ Kd.R k110 110 w' w.heap.size (fun _ => True) v0_ r1 ∧ Below w.heap.size w w' := by
 have HR0 := Aside0.mk hr0
 have HC0 := Aside0.mk hc0
 clear hr0 hc0
 have HR1 := Aside0.mk hr1
 have HC1 := Aside0.mk hc1
 clear hr1 hc1
 have HB := Aside0.mk (Below.refl w.heap.size w)
 have H : ((market_settle.f k l0 l1).bind fun bt101 => (some (bt101.1, bt101.2))) = some (r1, r2) := h
 clear h
 replace H := Option.bind_eq_some_iff.mp H
 obtain ⟨⟨t101, t102⟩, A30, H⟩ := H
 replace H : (some (t101, t102)) = some (r1, r2) := H
 have A3 := Aside0.mk A30
 clear A30
 simp only [Option.some.injEq, Prod.mk.injEq] at H
 obtain ⟨rfl, rfl⟩ := H
 go_enter Tryz.func50, Tryz.ntmps50
 go_wp2_with (first | ((with_reducible refine gate_callee (f := 121) rfl ?_); refine gl_ (some 8) Tryz.func121 #[.slice A0 l0.length c0, .slice A1 l1.length c1] ?_; (with_reducible refine (market_settle.calls k _ _ l0 _ _ l1 t101 t102 _ ?side1 ?side2 ?side3 ?side4 A3.out).mono ?_); (case side1 => exact cs_ HR0.out); (case side2 => exact HC0.out); (case side3 => exact cs_ HR1.out); (case side4 => exact HC1.out); rintro e w4 ⟨v103, rfl, ho0, hb⟩; refine ⟨_, rfl, ?_⟩; have n0_ := Aside0.mk (Kd.R_lower ho0 (below_size (ws_ HB.out))); have n1_ := Aside0.mk (below_step (ws_ HB.out) hb); clear HB; have HO104 := n0_; have HB := n1_; clear n0_ n1_; (try clear hb); (try clear hb2); (try clear hk); (try clear hi); (try clear ho0)))
 go_ret2
 exact ⟨_, by first | rfl | (simp [errW_none, errW_some] <;> rfl) | (simp [*, errW_none, errW_some] <;> rfl), by (with_reducible repeat (first | apply Kd.R_alloc | apply Kd.R_drewN | apply Kd.R_drew)); exact HO104.out, by repeat (first | (with_reducible first | exact HB.out | apply below_alloc | apply pw_below_drewN | apply below_drew1) | exact HB.out)⟩
/-! ### market_Books: function 53 -/
def market_Books.l0 : Nat → List (S110) → List (S86) → Int → Int → Int → Int → Int → Int → Int → Option (Int × Int × Int × Int × Int × Int)
 | 0, _, _, _, _, _, _, _, _, _ => none
 | k + 1, x6, x21, x22, x23, x107000, x107001, x107002, x107003, x107004 => if x23 < x22 then (if 0 ≤ x23 then (if x23 < (x21.length : Int) then (if x23 < (x6.length : Int) then (market_Books.l0 k x6 x21 x22 (wrap64 (x23 + 1)) (wrap64 (x107000 + ((rd_T86 x21 x23).f0))) (wrap64 (x107001 + ((rd_T86 x21 x23).f4))) (wrap64 (x107002 + ((rd_T86 x21 x23).f2))) (wrap64 (x107003 + ((rd_T86 x21 x23).f3))) (wrap64 (x107004 + ((rd_T110 x6 x23).f1)))) else (none)) else (none)) else (none)) else (some (x107000, x107001, x107002, x107003, x107004, 0))
def market_Books.f (k : Nat) (l0 : List (S86)) (l1 : List (S31)) : Option (Int × Int × Int × Int × Int × Int) := (market_settle.f k l0 l1).bind fun bt102 => (if bt102.2 = 0 then (market_Books.l0 k bt102.1 l0 (l0.length : Int) 0 0 0 0 0 0) else (some (0, 0, 0, 0, 0, bt102.2)))
def market_Books.T12 : Bool × List (List Nat × List Nat) := (true, [([], []), ([0], [0]), ([], []), ([], []), ([2, 3], [2, 3]), ([4], [4]), ([5], [5]), ([1, 6], [1, 6]), ([0, 1, 2, 3, 4, 5, 6, 7], []), ([8, 7, 0, 1, 2, 3, 4, 5, 6, 7], [7, 8])])
def market_Books.B12 : List Nat := [0, 1, 0, 0, 12, 28, 60, 127, 255, 511]
theorem market_Books.tab12 : rtab .any (opsOf Tryz.f53 12) = market_Books.T12 := by kernel_rfl
theorem market_Books.bits12 : waitsOk market_Books.T12.2 market_Books.B12 = true := by kernel_rfl
set_option maxHeartbeats 8000000 in
set_option maxRecDepth 100000 in
theorem market_Books.calls (k : Nat) (A0 : Option Addr) (c0 : Nat) (l0 : List (S86)) (A1 : Option Addr) (c1 : Nat) (l1 : List (S31)) (r1 : Int) (r2 : Int) (r3 : Int) (r4 : Int) (r5 : Int) (r6 : Int) (w : World) (hr0 : Kd.C k86 w A0 l0.length l0) (hc0 : l0.length ≤ c0) (hr1 : Kd.C k31 w A1 l1.length l1) (hc1 : l1.length ≤ c1) (h : market_Books.f k l0 l1 = some (r1, r2, r3, r4, r5, r6)) :
  Calls Tryz.prog 53 #[.slice A0 l0.length c0, .slice A1 l1.length c1] w fun e w' => e = .returned (.tuple #[.agg #[.int .i64 r1, .int .i64 r2, .int .i64 r3, .int .i64 r4, .int .i64 r5], .int .i64 r6]) ∧ Below w.heap.size w w' := by
 have hu95 := Tryz.underlying95
 have hu86 := Tryz.underlying86
 have HR0 := Aside0.mk hr0
 have HC0 := Aside0.mk hc0
 clear hr0 hc0
 have HR1 := Aside0.mk hr1
 have HC1 := Aside0.mk hc1
 clear hr1 hc1
 have HB := Aside0.mk (Below.refl w.heap.size w)
 have H : ((market_settle.f k l0 l1).bind fun bt102 => (if bt102.2 = 0 then (market_Books.l0 k bt102.1 l0 (l0.length : Int) 0 0 0 0 0 0) else (some (0, 0, 0, 0, 0, bt102.2)))) = some (r1, r2, r3, r4, r5, r6) := h
 clear h
 replace H := Option.bind_eq_some_iff.mp H
 obtain ⟨⟨t102, t103⟩, A30, H⟩ := H
 replace H : (if t103 = 0 then (market_Books.l0 k t102 l0 (l0.length : Int) 0 0 0 0 0 0) else (some (0, 0, 0, 0, 0, t103))) = some (r1, r2, r3, r4, r5, r6) := H
 have A3 := Aside0.mk A30
 clear A30
 by_cases c4 : t103 = 0
 ·rw [if_pos c4] at H
  have c4b0 : (t103 == 0) = true := beq_iff_eq.mpr c4
  have c4b1 : (t103 != 0) = false := bne_eq_false_iff_eq.mpr c4
  clear c4
  have H' := Aside0.mk H
  clear H
  go_enter Tryz.func53, Tryz.ntmps53
  go_wp2_with (first | ((with_reducible refine gate_dst (N := 4) rfl ?_); refine box_event ?hg (N := 4) ?hd (cs := #[.int .i64 0, .int .i64 0, .int .i64 0, .int .i64 0, .int .i64 0]) (t := 95) ?hr ?_; (case hd => rfl); (case hg => rfl); (case hr => first | (go_simp; done) | (go_simp; rfl)); intro gb101 hg w5 hbox hb; have n0_ := Aside0.mk (below_step (ws_ HB.out) hb); have n1_ := Aside0.mk (hbox); have n2_ := Aside0.mk ((by rw [hg]; exact (below_size (ws_ HB.out)) : w.heap.size ≤ gb101)); have n3_ := Aside0.mk ((by rw [hg]; exact (below_size (ws_ HB.out)) : w.heap.size ≤ gb101)); clear HB; have HB := n0_; have BK101 := n1_; have GW101 := n2_; have GE101 := n3_; clear n0_ n1_ n2_ n3_; clear hb hbox hg) | ((with_reducible refine gate_callee (f := 121) rfl ?_); refine gl_ (some 14) Tryz.func121 #[.slice A0 l0.length c0, .slice A1 l1.length c1] ?_; (with_reducible refine (market_settle.calls k _ _ l0 _ _ l1 t102 t103 _ ?side1 ?side2 ?side3 ?side4 A3.out).mono ?_); (case side1 => exact cs_ (Kd.C_below HR0.out HB.out)); (case side2 => exact HC0.out); (case side3 => exact cs_ (Kd.C_below HR1.out HB.out)); (case side4 => exact HC1.out); rintro e w6 ⟨v104, rfl, ho0, hb⟩; refine ⟨_, rfl, ?_⟩; have n0_ := Aside0.mk (Kd.R_lower ho0 (below_size (wg_ HB.out GE101.out))); have n1_ := Aside0.mk (blk_below (g := gb101) (o := .cells #[.int .i64 0, .int .i64 0, .int .i64 0, .int .i64 0, .int .i64 0] 95 (0, 0)) (bs_ BK101.out) hb); have n2_ := Aside0.mk (below_step (wg_ HB.out GE101.out) hb); clear BK101; clear HB; have HO105 := n0_; have BK101 := n1_; have HB := n2_; clear n0_ n1_ n2_; (try clear hb); (try clear hb2); (try clear hk); (try clear hi); (try clear ho0)) | ((with_reducible refine gate_dst (N := 8) rfl ?_); refine box_event ?hg (N := 8) ?hd (cs := #[.int .i64 0, .int .i64 0, .int .i64 0, .int .i64 0, .int .i64 0]) (t := 95) ?hr ?_; (case hd => rfl); (case hg => rfl); (case hr => first | (go_simp; done) | (go_simp; rfl)); intro gb106 hg w7 hbox hb; have n0_ := Aside0.mk (Kd.R_below (rs_ HO105.out) hb); have n1_ := Aside0.mk (blk_below (g := gb101) (o := .cells #[.int .i64 0, .int .i64 0, .int .i64 0, .int .i64 0, .int .i64 0] 95 (0, 0)) (bs_ BK101.out) hb); have n2_ := Aside0.mk (below_step (wg_ HB.out GE101.out) hb); have n3_ := Aside0.mk (hbox); have n4_ := Aside0.mk ((by rw [hg]; exact (below_size (wg_ HB.out GE101.out)) : w.heap.size ≤ gb106)); have n5_ := Aside0.mk ((by rw [hg]; exact (below_size (wg_ HB.out GE101.out)) : w.heap.size ≤ gb106)); have n6_ := Aside0.mk ((by rw [hg]; exact Nat.ne_of_lt (blk_lt (g := gb101) (o := .cells #[.int .i64 0, .int .i64 0, .int .i64 0, .int .i64 0, .int .i64 0] 95 (0, 0)) (bs_ BK101.out)) : gb101 ≠ gb106)); have n7_ := Aside0.mk ((by rw [hg]; exact Nat.ne_of_gt (blk_lt (g := gb101) (o := .cells #[.int .i64 0, .int .i64 0, .int .i64 0, .int .i64 0, .int .i64 0] 95 (0, 0)) (bs_ BK101.out)) : gb106 ≠ gb101)); clear HO105; clear BK101; clear HB; have HO105 := n0_; have BK101 := n1_; have HB := n2_; have BK106 := n3_; have GW106 := n4_; have GE106 := n5_; have NB101_106 := n6_; have NB106_101 := n7_; clear n0_ n1_ n2_ n3_ n4_ n5_ n6_ n7_; clear hb hbox hg))
  go_loopg [23] k (fun kq v23 w' => ∃ (x23_1 : Int) (x107000_1 : Int) (x107001_1 : Int) (x107002_1 : Int) (x107003_1 : Int) (x107004_1 : Int), v23 = .int .i64 x23_1 ∧ Aside0 (market_Books.l0 kq t102 l0 (l0.length : Int) x23_1 x107000_1 x107001_1 x107002_1 x107003_1 x107004_1 = some (r1, r2, r3, r4, r5, r6)) ∧ Aside0 (kq ≤ k) ∧ Aside0 (Kd.R k110 110 w' w.heap.size (fun _ => True) v104 t102) ∧ Aside0 (w'.heap[gb101]? = some (.cells #[.int .i64 0, .int .i64 0, .int .i64 0, .int .i64 0, .int .i64 0] 95 (0, 0))) ∧ Aside0 (w'.heap[gb106]? = some (.cells #[.int .i64 x107000_1, .int .i64 x107001_1, .int .i64 x107002_1, .int .i64 x107003_1, .int .i64 x107004_1] 95 (0, 0))) ∧ Aside0 (Below w.heap.size w w'))
  case atStart => exact ⟨(0), (0), (0), (0), (0), (0), (by first | rfl | (simp; done) | (simp [*]; done)), H', ⟨Nat.le_refl _⟩, ⟨by (with_reducible repeat (first | apply Kd.R_alloc | apply Kd.R_drewN | apply Kd.R_drew)); exact HO105.out⟩, ⟨by (with_reducible repeat (first | refine blk_drewN ?_ _ | refine blk_drew ?_ | refine blk_alloc ?_ _)); exact BK101.out⟩, ⟨by (with_reducible repeat (first | refine blk_drewN ?_ _ | refine blk_drew ?_ | refine blk_alloc ?_ _)); exact BK106.out⟩, ⟨by repeat (first | (with_reducible first | exact HB.out | apply below_alloc | apply pw_below_drewN | apply below_drew1 | refine below_set ?_ GE101.out | refine below_set ?_ GE106.out) | exact HB.out)⟩⟩
  case round =>
   clear H'
   try clear c1
   try clear p2
   try clear c4
   try clear c4b0
   try clear c4b1
   try clear c5
   obtain ⟨x23_1, x107000_1, x107001_1, x107002_1, x107003_1, x107004_1, rfl, HA, HK1, HO_6, BK101, BK106, HB⟩ := hrel
   cases gk with
   | zero => exact absurd HA.out (by simp [market_Books.l0])
   | succ k1 =>
    have H := HA.out
    clear HA
    simp only [market_Books.l0] at H
    by_cases c8 : x23_1 < (l0.length : Int)
    ·rw [if_pos c8] at H
     have c8b0 : decide (x23_1 < (l0.length : Int)) = true := decide_eq_true c8
     clear c8
     by_cases c9 : 0 ≤ x23_1
     ·rw [if_pos c9] at H
      have c9b0 : decide (0 ≤ x23_1) = true := decide_eq_true c9
      clear c9
      by_cases c10 : x23_1 < (l0.length : Int)
      ·rw [if_pos c10] at H
       have c10b0 : decide (x23_1 < (l0.length : Int)) = true := decide_eq_true c10
       clear c10
       by_cases c11 : x23_1 < (t102.length : Int)
       ·rw [if_pos c11] at H
        have c11b0 : decide (x23_1 < (t102.length : Int)) = true := decide_eq_true c11
        clear c11
        have H' := Aside0.mk H
        clear H
        have p107 : 0 ≤ (x23_1 : Int) := of_decide_eq_true (by first | (with_reducible assumption) | assumption)
        have q107 : x23_1 < (l0.length : Int) := of_decide_eq_true (by first | (with_reducible assumption) | assumption)
        obtain ⟨ad107, e107, hx107_0, hx107_1, hx107_2, hx107_3, hx107_4⟩ := at_T86 HR0.out x23_1 p107 q107
        cases e107
        replace hx107_0 := (HB.out.cell (World.block_lt_of_cell? w _ hx107_0)).trans hx107_0
        replace hx107_1 := (HB.out.cell (World.block_lt_of_cell? w _ hx107_1)).trans hx107_1
        replace hx107_2 := (HB.out.cell (World.block_lt_of_cell? w _ hx107_2)).trans hx107_2
        replace hx107_3 := (HB.out.cell (World.block_lt_of_cell? w _ hx107_3)).trans hx107_3
        replace hx107_4 := (HB.out.cell (World.block_lt_of_cell? w _ hx107_4)).trans hx107_4
        replace p107 := eq_true p107
        replace q107 := eq_true q107
        try go_wp2_with (first | ((with_reducible refine gate_dst (N := 10) rfl ?_); refine box_event ?hg (N := 10) ?hd (cs := #[.int .i64 0, .int .i64 0, .int .i64 0, .int .i64 0, .int .i64 0]) (t := 86) ?hr ?_; (case hd => rfl); (case hg => rfl); (case hr => first | (go_simp; done) | (go_simp; rfl)); intro gb108 hg w12 hbox hb; have n0_ := Aside0.mk (Kd.R_below (rs_ HO_6.out) hb); have n1_ := Aside0.mk (blk_below (g := gb101) (o := .cells #[.int .i64 0, .int .i64 0, .int .i64 0, .int .i64 0, .int .i64 0] 95 (0, 0)) (bs_ BK101.out) hb); have n2_ := Aside0.mk (blk_below (g := gb106) (o := .cells #[.int .i64 x107000_1, .int .i64 x107001_1, .int .i64 x107002_1, .int .i64 x107003_1, .int .i64 x107004_1] 95 (0, 0)) (bs_ BK106.out) hb); have n3_ := Aside0.mk (below_step (by repeat (first | (with_reducible first | exact HB.out | apply below_alloc | apply pw_below_drewN | apply below_drew1 | refine below_set ?_ GE101.out | refine below_set ?_ GE106.out) | exact HB.out)) hb); have n4_ := Aside0.mk (hbox); have n5_ := Aside0.mk ((by rw [hg]; exact (below_size (by repeat (first | (with_reducible first | exact HB.out | apply below_alloc | apply pw_below_drewN | apply below_drew1 | refine below_set ?_ GE101.out | refine below_set ?_ GE106.out) | exact HB.out))) : w.heap.size ≤ gb108)); have n6_ := Aside0.mk ((by rw [hg]; exact (below_size (by repeat (first | (with_reducible first | exact HB.out | apply below_alloc | apply pw_below_drewN | apply below_drew1 | refine below_set ?_ GE101.out | refine below_set ?_ GE106.out) | exact HB.out))) : w.heap.size ≤ gb108)); have n7_ := Aside0.mk ((by rw [hg]; exact Nat.ne_of_lt (blk_lt (g := gb101) (o := .cells #[.int .i64 0, .int .i64 0, .int .i64 0, .int .i64 0, .int .i64 0] 95 (0, 0)) (bs_ BK101.out)) : gb101 ≠ gb108)); have n8_ := Aside0.mk ((by rw [hg]; exact Nat.ne_of_gt (blk_lt (g := gb101) (o := .cells #[.int .i64 0, .int .i64 0, .int .i64 0, .int .i64 0, .int .i64 0] 95 (0, 0)) (bs_ BK101.out)) : gb108 ≠ gb101)); have n9_ := Aside0.mk ((by rw [hg]; exact Nat.ne_of_lt (blk_lt (g := gb106) (o := .cells #[.int .i64 x107000_1, .int .i64 x107001_1, .int .i64 x107002_1, .int .i64 x107003_1, .int .i64 x107004_1] 95 (0, 0)) (bs_ BK106.out)) : gb106 ≠ gb108)); have n10_ := Aside0.mk ((by rw [hg]; exact Nat.ne_of_gt (blk_lt (g := gb106) (o := .cells #[.int .i64 x107000_1, .int .i64 x107001_1, .int .i64 x107002_1, .int .i64 x107003_1, .int .i64 x107004_1] 95 (0, 0)) (bs_ BK106.out)) : gb108 ≠ gb106)); clear HO_6; clear BK101; clear BK106; clear HB; have HO_6 := n0_; have BK101 := n1_; have BK106 := n2_; have HB := n3_; have BK108 := n4_; have GW108 := n5_; have GE108 := n6_; have NB101_108 := n7_; have NB108_101 := n8_; have NB106_108 := n9_; have NB108_106 := n10_; clear n0_ n1_ n2_ n3_ n4_ n5_ n6_ n7_ n8_ n9_ n10_; clear hb hbox hg; have hnb13 := NB108_101.out; have hnc13 := NB101_108.out; have hnb14 := NB108_106.out; have hnc14 := NB106_108.out; have hcz15_0 : w12.cell? ⟨gb108, 0, none⟩ = some (.int .i64 0) := (blk_cell BK108.out 0).trans rfl; have hcz15_1 : w12.cell? ⟨gb108, 1, none⟩ = some (.int .i64 0) := (blk_cell BK108.out 1).trans rfl; have hcz15_2 : w12.cell? ⟨gb108, 2, none⟩ = some (.int .i64 0) := (blk_cell BK108.out 2).trans rfl; have hcz15_3 : w12.cell? ⟨gb108, 3, none⟩ = some (.int .i64 0) := (blk_cell BK108.out 3).trans rfl; have hcz15_4 : w12.cell? ⟨gb108, 4, none⟩ = some (.int .i64 0) := (blk_cell BK108.out 4).trans rfl; have hfz15_0 := blk_frozen BK108.out 0; have hfz15_1 := blk_frozen BK108.out 1; have hfz15_2 := blk_frozen BK108.out 2; have hfz15_3 := blk_frozen BK108.out 3; have hfz15_4 := blk_frozen BK108.out 4; have hnb16 := NB106_101.out; have hnc16 := NB101_106.out; have hcz17_0 : w12.cell? ⟨gb106, 0, none⟩ = some (.int .i64 x107000_1) := (blk_cell BK106.out 0).trans rfl; have hcz17_1 : w12.cell? ⟨gb106, 1, none⟩ = some (.int .i64 x107001_1) := (blk_cell BK106.out 1).trans rfl; have hcz17_2 : w12.cell? ⟨gb106, 2, none⟩ = some (.int .i64 x107002_1) := (blk_cell BK106.out 2).trans rfl; have hcz17_3 : w12.cell? ⟨gb106, 3, none⟩ = some (.int .i64 x107003_1) := (blk_cell BK106.out 3).trans rfl; have hcz17_4 : w12.cell? ⟨gb106, 4, none⟩ = some (.int .i64 x107004_1) := (blk_cell BK106.out 4).trans rfl; have hfz17_0 := blk_frozen BK106.out 0; have hfz17_1 := blk_frozen BK106.out 1; have hfz17_2 := blk_frozen BK106.out 2; have hfz17_3 := blk_frozen BK106.out 3; have hfz17_4 := blk_frozen BK106.out 4))
        have n0_ : Aside0 (Kd.R k110 110 (((((((((w12.setCell ⟨gb108, 0, none⟩ (.int .i64 ((rd_T86 l0 x23_1).f0))).setCell ⟨gb108, 1, none⟩ (.int .i64 ((rd_T86 l0 x23_1).f1))).setCell ⟨gb108, 2, none⟩ (.int .i64 ((rd_T86 l0 x23_1).f2))).setCell ⟨gb108, 3, none⟩ (.int .i64 ((rd_T86 l0 x23_1).f3))).setCell ⟨gb108, 4, none⟩ (.int .i64 ((rd_T86 l0 x23_1).f4))).setCell ⟨gb106, 0, none⟩ (.int .i64 (wrap64 (x107000_1 + ((rd_T86 l0 x23_1).f0))))).setCell ⟨gb106, 1, none⟩ (.int .i64 (wrap64 (x107001_1 + ((rd_T86 l0 x23_1).f4))))).setCell ⟨gb106, 2, none⟩ (.int .i64 (wrap64 (x107002_1 + ((rd_T86 l0 x23_1).f2))))).setCell ⟨gb106, 3, none⟩ (.int .i64 (wrap64 (x107003_1 + ((rd_T86 l0 x23_1).f3))))) w.heap.size (fun _ => True) v104 t102) := ⟨by (with_reducible repeat (first | apply Kd.R_alloc | apply Kd.R_drewN | apply Kd.R_drew)); exact Kd.R_mono (Kd.R_far (p := ⟨gb106, 3, none⟩) (Kd.R_far (p := ⟨gb106, 2, none⟩) (Kd.R_far (p := ⟨gb106, 1, none⟩) (Kd.R_far (p := ⟨gb106, 0, none⟩) (Kd.R_far (p := ⟨gb108, 4, none⟩) (Kd.R_far (p := ⟨gb108, 3, none⟩) (Kd.R_far (p := ⟨gb108, 2, none⟩) (Kd.R_far (p := ⟨gb108, 1, none⟩) (Kd.R_far (p := ⟨gb108, 0, none⟩) (Kd.R_types (Kd.R_types HO_6.out BK108.out (by decide)) BK106.out (by decide)) (fun _ hk => hk.1.2) (.int .i64 ((rd_T86 l0 x23_1).f0))) (fun _ hk => hk.1.2) (.int .i64 ((rd_T86 l0 x23_1).f1))) (fun _ hk => hk.1.2) (.int .i64 ((rd_T86 l0 x23_1).f2))) (fun _ hk => hk.1.2) (.int .i64 ((rd_T86 l0 x23_1).f3))) (fun _ hk => hk.1.2) (.int .i64 ((rd_T86 l0 x23_1).f4))) (fun _ hk => hk.2) (.int .i64 (wrap64 (x107000_1 + ((rd_T86 l0 x23_1).f0))))) (fun _ hk => hk.2) (.int .i64 (wrap64 (x107001_1 + ((rd_T86 l0 x23_1).f4))))) (fun _ hk => hk.2) (.int .i64 (wrap64 (x107002_1 + ((rd_T86 l0 x23_1).f2))))) (fun _ hk => hk.2) (.int .i64 (wrap64 (x107003_1 + ((rd_T86 l0 x23_1).f3))))) (fun _ hk => trivial)⟩
        have n1_ : Aside0 ((((((((((w12.setCell ⟨gb108, 0, none⟩ (.int .i64 ((rd_T86 l0 x23_1).f0))).setCell ⟨gb108, 1, none⟩ (.int .i64 ((rd_T86 l0 x23_1).f1))).setCell ⟨gb108, 2, none⟩ (.int .i64 ((rd_T86 l0 x23_1).f2))).setCell ⟨gb108, 3, none⟩ (.int .i64 ((rd_T86 l0 x23_1).f3))).setCell ⟨gb108, 4, none⟩ (.int .i64 ((rd_T86 l0 x23_1).f4))).setCell ⟨gb106, 0, none⟩ (.int .i64 (wrap64 (x107000_1 + ((rd_T86 l0 x23_1).f0))))).setCell ⟨gb106, 1, none⟩ (.int .i64 (wrap64 (x107001_1 + ((rd_T86 l0 x23_1).f4))))).setCell ⟨gb106, 2, none⟩ (.int .i64 (wrap64 (x107002_1 + ((rd_T86 l0 x23_1).f2))))).setCell ⟨gb106, 3, none⟩ (.int .i64 (wrap64 (x107003_1 + ((rd_T86 l0 x23_1).f3))))).heap[gb101]? = some (.cells #[.int .i64 0, .int .i64 0, .int .i64 0, .int .i64 0, .int .i64 0] 95 (0, 0))) := ⟨by (with_reducible repeat (first | refine blk_drewN ?_ _ | refine blk_drew ?_ | refine blk_alloc ?_ _)); refine blk_far ?_ NB101_106.out _; (with_reducible repeat (first | refine blk_drewN ?_ _ | refine blk_drew ?_ | refine blk_alloc ?_ _)); refine blk_far ?_ NB101_106.out _; (with_reducible repeat (first | refine blk_drewN ?_ _ | refine blk_drew ?_ | refine blk_alloc ?_ _)); refine blk_far ?_ NB101_106.out _; (with_reducible repeat (first | refine blk_drewN ?_ _ | refine blk_drew ?_ | refine blk_alloc ?_ _)); refine blk_far ?_ NB101_106.out _; (with_reducible repeat (first | refine blk_drewN ?_ _ | refine blk_drew ?_ | refine blk_alloc ?_ _)); refine blk_far ?_ NB101_108.out _; (with_reducible repeat (first | refine blk_drewN ?_ _ | refine blk_drew ?_ | refine blk_alloc ?_ _)); refine blk_far ?_ NB101_108.out _; (with_reducible repeat (first | refine blk_drewN ?_ _ | refine blk_drew ?_ | refine blk_alloc ?_ _)); refine blk_far ?_ NB101_108.out _; (with_reducible repeat (first | refine blk_drewN ?_ _ | refine blk_drew ?_ | refine blk_alloc ?_ _)); refine blk_far ?_ NB101_108.out _; (with_reducible repeat (first | refine blk_drewN ?_ _ | refine blk_drew ?_ | refine blk_alloc ?_ _)); refine blk_far ?_ NB101_108.out _; (with_reducible repeat (first | refine blk_drewN ?_ _ | refine blk_drew ?_ | refine blk_alloc ?_ _)); exact BK101.out⟩
        have n2_ : Aside0 ((((((((((w12.setCell ⟨gb108, 0, none⟩ (.int .i64 ((rd_T86 l0 x23_1).f0))).setCell ⟨gb108, 1, none⟩ (.int .i64 ((rd_T86 l0 x23_1).f1))).setCell ⟨gb108, 2, none⟩ (.int .i64 ((rd_T86 l0 x23_1).f2))).setCell ⟨gb108, 3, none⟩ (.int .i64 ((rd_T86 l0 x23_1).f3))).setCell ⟨gb108, 4, none⟩ (.int .i64 ((rd_T86 l0 x23_1).f4))).setCell ⟨gb106, 0, none⟩ (.int .i64 (wrap64 (x107000_1 + ((rd_T86 l0 x23_1).f0))))).setCell ⟨gb106, 1, none⟩ (.int .i64 (wrap64 (x107001_1 + ((rd_T86 l0 x23_1).f4))))).setCell ⟨gb106, 2, none⟩ (.int .i64 (wrap64 (x107002_1 + ((rd_T86 l0 x23_1).f2))))).setCell ⟨gb106, 3, none⟩ (.int .i64 (wrap64 (x107003_1 + ((rd_T86 l0 x23_1).f3))))).heap[gb106]? = some (.cells #[.int .i64 (wrap64 (x107000_1 + ((rd_T86 l0 x23_1).f0))), .int .i64 (wrap64 (x107001_1 + ((rd_T86 l0 x23_1).f4))), .int .i64 (wrap64 (x107002_1 + ((rd_T86 l0 x23_1).f2))), .int .i64 (wrap64 (x107003_1 + ((rd_T86 l0 x23_1).f3))), .int .i64 x107004_1] 95 (0, 0))) := ⟨by (with_reducible repeat (first | refine blk_drewN ?_ _ | refine blk_drew ?_ | refine blk_alloc ?_ _)); refine blk_put (cs := #[.int .i64 (wrap64 (x107000_1 + ((rd_T86 l0 x23_1).f0))), .int .i64 (wrap64 (x107001_1 + ((rd_T86 l0 x23_1).f4))), .int .i64 (wrap64 (x107002_1 + ((rd_T86 l0 x23_1).f2))), .int .i64 x107003_1, .int .i64 x107004_1]) ?_ 3 _ rfl; (with_reducible repeat (first | refine blk_drewN ?_ _ | refine blk_drew ?_ | refine blk_alloc ?_ _)); refine blk_put (cs := #[.int .i64 (wrap64 (x107000_1 + ((rd_T86 l0 x23_1).f0))), .int .i64 (wrap64 (x107001_1 + ((rd_T86 l0 x23_1).f4))), .int .i64 x107002_1, .int .i64 x107003_1, .int .i64 x107004_1]) ?_ 2 _ rfl; (with_reducible repeat (first | refine blk_drewN ?_ _ | refine blk_drew ?_ | refine blk_alloc ?_ _)); refine blk_put (cs := #[.int .i64 (wrap64 (x107000_1 + ((rd_T86 l0 x23_1).f0))), .int .i64 x107001_1, .int .i64 x107002_1, .int .i64 x107003_1, .int .i64 x107004_1]) ?_ 1 _ rfl; (with_reducible repeat (first | refine blk_drewN ?_ _ | refine blk_drew ?_ | refine blk_alloc ?_ _)); refine blk_put (cs := #[.int .i64 x107000_1, .int .i64 x107001_1, .int .i64 x107002_1, .int .i64 x107003_1, .int .i64 x107004_1]) ?_ 0 _ rfl; (with_reducible repeat (first | refine blk_drewN ?_ _ | refine blk_drew ?_ | refine blk_alloc ?_ _)); refine blk_far ?_ NB106_108.out _; (with_reducible repeat (first | refine blk_drewN ?_ _ | refine blk_drew ?_ | refine blk_alloc ?_ _)); refine blk_far ?_ NB106_108.out _; (with_reducible repeat (first | refine blk_drewN ?_ _ | refine blk_drew ?_ | refine blk_alloc ?_ _)); refine blk_far ?_ NB106_108.out _; (with_reducible repeat (first | refine blk_drewN ?_ _ | refine blk_drew ?_ | refine blk_alloc ?_ _)); refine blk_far ?_ NB106_108.out _; (with_reducible repeat (first | refine blk_drewN ?_ _ | refine blk_drew ?_ | refine blk_alloc ?_ _)); refine blk_far ?_ NB106_108.out _; (with_reducible repeat (first | refine blk_drewN ?_ _ | refine blk_drew ?_ | refine blk_alloc ?_ _)); exact BK106.out⟩
        have n3_ : Aside0 ((((((((((w12.setCell ⟨gb108, 0, none⟩ (.int .i64 ((rd_T86 l0 x23_1).f0))).setCell ⟨gb108, 1, none⟩ (.int .i64 ((rd_T86 l0 x23_1).f1))).setCell ⟨gb108, 2, none⟩ (.int .i64 ((rd_T86 l0 x23_1).f2))).setCell ⟨gb108, 3, none⟩ (.int .i64 ((rd_T86 l0 x23_1).f3))).setCell ⟨gb108, 4, none⟩ (.int .i64 ((rd_T86 l0 x23_1).f4))).setCell ⟨gb106, 0, none⟩ (.int .i64 (wrap64 (x107000_1 + ((rd_T86 l0 x23_1).f0))))).setCell ⟨gb106, 1, none⟩ (.int .i64 (wrap64 (x107001_1 + ((rd_T86 l0 x23_1).f4))))).setCell ⟨gb106, 2, none⟩ (.int .i64 (wrap64 (x107002_1 + ((rd_T86 l0 x23_1).f2))))).setCell ⟨gb106, 3, none⟩ (.int .i64 (wrap64 (x107003_1 + ((rd_T86 l0 x23_1).f3))))).heap[gb108]? = some (.cells #[.int .i64 ((rd_T86 l0 x23_1).f0), .int .i64 ((rd_T86 l0 x23_1).f1), .int .i64 ((rd_T86 l0 x23_1).f2), .int .i64 ((rd_T86 l0 x23_1).f3), .int .i64 ((rd_T86 l0 x23_1).f4)] 86 (0, 0))) := ⟨by (with_reducible repeat (first | refine blk_drewN ?_ _ | refine blk_drew ?_ | refine blk_alloc ?_ _)); refine blk_far ?_ NB108_106.out _; (with_reducible repeat (first | refine blk_drewN ?_ _ | refine blk_drew ?_ | refine blk_alloc ?_ _)); refine blk_far ?_ NB108_106.out _; (with_reducible repeat (first | refine blk_drewN ?_ _ | refine blk_drew ?_ | refine blk_alloc ?_ _)); refine blk_far ?_ NB108_106.out _; (with_reducible repeat (first | refine blk_drewN ?_ _ | refine blk_drew ?_ | refine blk_alloc ?_ _)); refine blk_far ?_ NB108_106.out _; (with_reducible repeat (first | refine blk_drewN ?_ _ | refine blk_drew ?_ | refine blk_alloc ?_ _)); refine blk_put (cs := #[.int .i64 ((rd_T86 l0 x23_1).f0), .int .i64 ((rd_T86 l0 x23_1).f1), .int .i64 ((rd_T86 l0 x23_1).f2), .int .i64 ((rd_T86 l0 x23_1).f3), .int .i64 0]) ?_ 4 _ rfl; (with_reducible repeat (first | refine blk_drewN ?_ _ | refine blk_drew ?_ | refine blk_alloc ?_ _)); refine blk_put (cs := #[.int .i64 ((rd_T86 l0 x23_1).f0), .int .i64 ((rd_T86 l0 x23_1).f1), .int .i64 ((rd_T86 l0 x23_1).f2), .int .i64 0, .int .i64 0]) ?_ 3 _ rfl; (with_reducible repeat (first | refine blk_drewN ?_ _ | refine blk_drew ?_ | refine blk_alloc ?_ _)); refine blk_put (cs := #[.int .i64 ((rd_T86 l0 x23_1).f0), .int .i64 ((rd_T86 l0 x23_1).f1), .int .i64 0, .int .i64 0, .int .i64 0]) ?_ 2 _ rfl; (with_reducible repeat (first | refine blk_drewN ?_ _ | refine blk_drew ?_ | refine blk_alloc ?_ _)); refine blk_put (cs := #[.int .i64 ((rd_T86 l0 x23_1).f0), .int .i64 0, .int .i64 0, .int .i64 0, .int .i64 0]) ?_ 1 _ rfl; (with_reducible repeat (first | refine blk_drewN ?_ _ | refine blk_drew ?_ | refine blk_alloc ?_ _)); refine blk_put (cs := #[.int .i64 0, .int .i64 0, .int .i64 0, .int .i64 0, .int .i64 0]) ?_ 0 _ rfl; (with_reducible repeat (first | refine blk_drewN ?_ _ | refine blk_drew ?_ | refine blk_alloc ?_ _)); exact BK108.out⟩
        have n4_ : Aside0 (Below w.heap.size w (((((((((w12.setCell ⟨gb108, 0, none⟩ (.int .i64 ((rd_T86 l0 x23_1).f0))).setCell ⟨gb108, 1, none⟩ (.int .i64 ((rd_T86 l0 x23_1).f1))).setCell ⟨gb108, 2, none⟩ (.int .i64 ((rd_T86 l0 x23_1).f2))).setCell ⟨gb108, 3, none⟩ (.int .i64 ((rd_T86 l0 x23_1).f3))).setCell ⟨gb108, 4, none⟩ (.int .i64 ((rd_T86 l0 x23_1).f4))).setCell ⟨gb106, 0, none⟩ (.int .i64 (wrap64 (x107000_1 + ((rd_T86 l0 x23_1).f0))))).setCell ⟨gb106, 1, none⟩ (.int .i64 (wrap64 (x107001_1 + ((rd_T86 l0 x23_1).f4))))).setCell ⟨gb106, 2, none⟩ (.int .i64 (wrap64 (x107002_1 + ((rd_T86 l0 x23_1).f2))))).setCell ⟨gb106, 3, none⟩ (.int .i64 (wrap64 (x107003_1 + ((rd_T86 l0 x23_1).f3)))))) := ⟨by repeat (first | (with_reducible first | exact HB.out | apply below_alloc | apply pw_below_drewN | apply below_drew1 | refine below_set ?_ GE101.out | refine below_set ?_ GE106.out | refine below_set ?_ GE108.out) | exact HB.out)⟩
        (try clear HO_6)
        (try clear BK101)
        (try clear BK106)
        (try clear BK108)
        (try clear HB)
        generalize (((((((((w12.setCell ⟨gb108, 0, none⟩ (.int .i64 ((rd_T86 l0 x23_1).f0))).setCell ⟨gb108, 1, none⟩ (.int .i64 ((rd_T86 l0 x23_1).f1))).setCell ⟨gb108, 2, none⟩ (.int .i64 ((rd_T86 l0 x23_1).f2))).setCell ⟨gb108, 3, none⟩ (.int .i64 ((rd_T86 l0 x23_1).f3))).setCell ⟨gb108, 4, none⟩ (.int .i64 ((rd_T86 l0 x23_1).f4))).setCell ⟨gb106, 0, none⟩ (.int .i64 (wrap64 (x107000_1 + ((rd_T86 l0 x23_1).f0))))).setCell ⟨gb106, 1, none⟩ (.int .i64 (wrap64 (x107001_1 + ((rd_T86 l0 x23_1).f4))))).setCell ⟨gb106, 2, none⟩ (.int .i64 (wrap64 (x107002_1 + ((rd_T86 l0 x23_1).f2))))).setCell ⟨gb106, 3, none⟩ (.int .i64 (wrap64 (x107003_1 + ((rd_T86 l0 x23_1).f3))))) = w18 at n0_ n1_ n2_ n3_ n4_ ⊢
        have HO_6 := n0_
        have BK101 := n1_
        have BK106 := n2_
        have BK108 := n3_
        have HB := n4_
        clear n0_ n1_ n2_ n3_ n4_
        have n0_ := Aside0.mk (Kd.R_drew HO_6.out)
        have n1_ := Aside0.mk (blk_drew BK101.out)
        have n2_ := Aside0.mk (blk_drew BK106.out)
        have n3_ := Aside0.mk (blk_drew BK108.out)
        have n4_ := Aside0.mk (below_drew1 HB.out)
        clear HO_6
        clear BK101
        clear BK106
        clear BK108
        clear HB
        have HO_6 := n0_
        have BK101 := n1_
        have BK106 := n2_
        have BK108 := n3_
        have HB := n4_
        clear n0_ n1_ n2_ n3_ n4_
        obtain ⟨Ao20, co20, eo20⟩ := Kd.R_slice HO_6.out
        (first | subst eo20 | (injection eo20 with f1_ f2_ f3_; have f4_ := f1_.symm; have f5_ := f3_.symm; clear f1_ f2_ f3_; subst f4_; subst f5_))
        have p109 : 0 ≤ (x23_1 : Int) := of_decide_eq_true (by first | (with_reducible assumption) | assumption)
        have q109 : x23_1 < (t102.length : Int) := of_decide_eq_true (by first | (with_reducible assumption) | assumption)
        obtain ⟨ad109, e109, hx109_0, hx109_1⟩ := at_T110 (Kd.R_reads' HO_6.out).2.2 x23_1 p109 q109
        cases e109
        replace p109 := eq_true p109
        replace q109 := eq_true q109
        refine start_ (n := 10) (S := fun w' => w'.cell? ⟨gb106, 0, none⟩ = some (.int .i64 (wrap64 (x107000_1 + ((rd_T86 l0 x23_1).f0)))) ∧ w'.cell? ⟨gb106, 1, none⟩ = some (.int .i64 (wrap64 (x107001_1 + ((rd_T86 l0 x23_1).f4)))) ∧ w'.cell? ⟨gb106, 2, none⟩ = some (.int .i64 (wrap64 (x107002_1 + ((rd_T86 l0 x23_1).f2)))) ∧ w'.cell? ⟨gb106, 3, none⟩ = some (.int .i64 (wrap64 (x107003_1 + ((rd_T86 l0 x23_1).f3)))) ∧ w'.cell? ⟨gb106, 4, none⟩ = some (.int .i64 x107004_1) ∧ w'.cell? (ad109.add ((x23_1).toNat * 2)) = some (.int .i64 ((rd_T110 t102 x23_1).f0)) ∧ w'.cell? ⟨(ad109.add ((x23_1).toNat * 2)).block, (ad109.add ((x23_1).toNat * 2)).off + 1, none⟩ = some (.int .i64 ((rd_T110 t102 x23_1).f1))) (ds := [9]) #[false, false, false, false, false, false, false, false, false, false] (by kernel_rfl) rfl rfl ⟨(blk_cell BK106.out 0).trans rfl, (blk_cell BK106.out 1).trans rfl, (blk_cell BK106.out 2).trans rfl, (blk_cell BK106.out 3).trans rfl, (blk_cell BK106.out 4).trans rfl, hx109_0, hx109_1⟩ (fun hHeld => ?_); refine with_tabW market_Books.tab12 market_Books.bits12 (fun HT_ HW_ => ?_)
        generalize w18.drew = w19 at HO_6 BK101 BK106 BK108 HB hx109_0 hx109_1 hHeld ⊢
        refine pv_ 0 52 #[true, false, false, false, false, false, false, false, false, false] (any_of HT_.out (by kernel_rfl)) ?_
        refine pv_ 2 54 #[true, false, true, false, false, false, false, false, false, false] (any_of HT_.out (by kernel_rfl)) ?_
        refine pv_ 3 55 #[true, false, true, true, false, false, false, false, false, false] (any_of HT_.out (by kernel_rfl)) ?_
        refine pv_ 4 56 #[true, false, true, true, true, false, false, false, false, false] (any_of HT_.out (by kernel_rfl)) ?_
        refine pv_ 5 57 #[true, false, true, true, true, true, false, false, false, false] (any_of HT_.out (by kernel_rfl)) ?_
        refine take_ (i := 1) (N := some 53) (v := ?_) (a' := ?_) #[true, true, true, true, true, true, false, false, false, false] rfl rfl (take_ofW HT_.out HW_.out (by kernel_rfl)) (fun _ _ _ h => h) (Or.inl ⟨by rfl, ?_⟩) hHeld ?_ ?_
        rotate_left
        ·rintro w' ⟨s0, s1, s2, s3, s4, s5, s6⟩
         go_simp
         with_reducible rfl
        rotate_left
        ·simp only [Act.put, List.setIfInBounds_toArray, List.set_cons_zero, List.set_cons_succ, i64_w, i32_w]
         rfl
        refine take_ (i := 6) (N := some 58) (v := ?_) (a' := ?_) #[true, true, true, true, true, true, true, false, false, false] rfl rfl (take_ofW HT_.out HW_.out (by kernel_rfl)) (fun _ _ _ h => h) (Or.inl ⟨by rfl, ?_⟩) hHeld ?_ ?_
        rotate_left
        ·rintro w' ⟨s0, s1, s2, s3, s4, s5, s6⟩
         go_simp
         with_reducible rfl
        rotate_left
        ·simp only [Act.put, List.setIfInBounds_toArray, List.set_cons_zero, List.set_cons_succ, i64_w, i32_w]
         rfl
        refine pv_ 7 59 #[true, true, true, true, true, true, true, true, false, false] (any_of HT_.out (by kernel_rfl)) ?_
        refine pv_ 8 60 #[true, true, true, true, true, true, true, true, true, false] (any_of HT_.out (by kernel_rfl)) ?_
        refine last_ (i := 9) (N := none) #[true, true, true, true, true, true, true, true, true, true] rfl rfl (one_of HT_.out (by kernel_rfl)) (by decide) (fun K hK => ?_)
        have hs21 : w19.cell? ⟨gb106, 4, none⟩ = some (.int .i64 x107004_1) := (blk_cell BK106.out 4).trans rfl
        have hfs21 := blk_frozen BK106.out 4
        have hns21_0 := NB101_106.out
        have hns21_2 := NB108_106.out
        have hms21_0 := NB106_101.out
        have hms21_2 := NB106_108.out
        refine skip_ (w1 := ?_) (by rfl) rfl ?_ ?_
        rotate_left
        ·go_simp
         rfl
        refine hK.out _ _ ?_
        clear hK K
        refine done_ (done_of HT_.out (by kernel_rfl)) ?_
        try go_wp2
        go_roundg k1
        case measure => have := HK1.out; omega
        case rel => exact ⟨(wrap64 (x23_1 + 1)), (wrap64 (x107000_1 + ((rd_T86 l0 x23_1).f0))), (wrap64 (x107001_1 + ((rd_T86 l0 x23_1).f4))), (wrap64 (x107002_1 + ((rd_T86 l0 x23_1).f2))), (wrap64 (x107003_1 + ((rd_T86 l0 x23_1).f3))), (wrap64 (x107004_1 + ((rd_T110 t102 x23_1).f1))), (by first | rfl | (simp; done) | (simp [*]; done)), H', ⟨by have := HK1.out; omega⟩, ⟨by (with_reducible repeat (first | apply Kd.R_alloc | apply Kd.R_drewN | apply Kd.R_drew)); exact Kd.R_mono (Kd.R_far (p := ⟨gb106, 4, none⟩) (Kd.R_types HO_6.out BK106.out (by decide)) (fun _ hk => hk.2) (.int .i64 (wrap64 (x107004_1 + ((rd_T110 t102 x23_1).f1))))) (fun _ hk => trivial)⟩, ⟨by (with_reducible repeat (first | refine blk_drewN ?_ _ | refine blk_drew ?_ | refine blk_alloc ?_ _)); refine blk_far ?_ NB101_106.out _; (with_reducible repeat (first | refine blk_drewN ?_ _ | refine blk_drew ?_ | refine blk_alloc ?_ _)); exact BK101.out⟩, ⟨by (with_reducible repeat (first | refine blk_drewN ?_ _ | refine blk_drew ?_ | refine blk_alloc ?_ _)); refine blk_put (cs := #[.int .i64 (wrap64 (x107000_1 + ((rd_T86 l0 x23_1).f0))), .int .i64 (wrap64 (x107001_1 + ((rd_T86 l0 x23_1).f4))), .int .i64 (wrap64 (x107002_1 + ((rd_T86 l0 x23_1).f2))), .int .i64 (wrap64 (x107003_1 + ((rd_T86 l0 x23_1).f3))), .int .i64 x107004_1]) ?_ 4 _ rfl; (with_reducible repeat (first | refine blk_drewN ?_ _ | refine blk_drew ?_ | refine blk_alloc ?_ _)); exact BK106.out⟩, ⟨by repeat (first | (with_reducible first | exact HB.out | apply below_alloc | apply pw_below_drewN | apply below_drew1 | refine below_set ?_ GE101.out | refine below_set ?_ GE106.out | refine below_set ?_ GE108.out) | exact HB.out)⟩⟩
       ·rw [if_neg c11] at H
        exact absurd H (by simp)
      ·rw [if_neg c10] at H
       exact absurd H (by simp)
     ·rw [if_neg c9] at H
      exact absurd H (by simp)
    ·rw [if_neg c8] at H
     have c8b0 : decide (x23_1 < (l0.length : Int)) = false := decide_eq_false c8
     clear c8
     simp only [Option.some.injEq, Prod.mk.injEq] at H
     obtain ⟨rfl, rfl, rfl, rfl, rfl, rfl⟩ := H
     have hnb22 := NB106_101.out
     have hnc22 := NB101_106.out
     have hcz23_0 : wr.cell? ⟨gb106, 0, none⟩ = some (.int .i64 x107000_1) := (blk_cell BK106.out 0).trans rfl
     have hcz23_1 : wr.cell? ⟨gb106, 1, none⟩ = some (.int .i64 x107001_1) := (blk_cell BK106.out 1).trans rfl
     have hcz23_2 : wr.cell? ⟨gb106, 2, none⟩ = some (.int .i64 x107002_1) := (blk_cell BK106.out 2).trans rfl
     have hcz23_3 : wr.cell? ⟨gb106, 3, none⟩ = some (.int .i64 x107003_1) := (blk_cell BK106.out 3).trans rfl
     have hcz23_4 : wr.cell? ⟨gb106, 4, none⟩ = some (.int .i64 x107004_1) := (blk_cell BK106.out 4).trans rfl
     have hfz23_0 := blk_frozen BK106.out 0
     have hfz23_1 := blk_frozen BK106.out 1
     have hfz23_2 := blk_frozen BK106.out 2
     have hfz23_3 := blk_frozen BK106.out 3
     have hfz23_4 := blk_frozen BK106.out 4
     have hcz24_0 : wr.cell? ⟨gb101, 0, none⟩ = some (.int .i64 0) := (blk_cell BK101.out 0).trans rfl
     have hcz24_1 : wr.cell? ⟨gb101, 1, none⟩ = some (.int .i64 0) := (blk_cell BK101.out 1).trans rfl
     have hcz24_2 : wr.cell? ⟨gb101, 2, none⟩ = some (.int .i64 0) := (blk_cell BK101.out 2).trans rfl
     have hcz24_3 : wr.cell? ⟨gb101, 3, none⟩ = some (.int .i64 0) := (blk_cell BK101.out 3).trans rfl
     have hcz24_4 : wr.cell? ⟨gb101, 4, none⟩ = some (.int .i64 0) := (blk_cell BK101.out 4).trans rfl
     have hfz24_0 := blk_frozen BK101.out 0
     have hfz24_1 := blk_frozen BK101.out 1
     have hfz24_2 := blk_frozen BK101.out 2
     have hfz24_3 := blk_frozen BK101.out 3
     have hfz24_4 := blk_frozen BK101.out 4
     go_wp2
     refine bodyPost_ret (results_ct rfl _ _ gb101 95 #[.int .i64 x107000_1, .int .i64 x107001_1, .int .i64 x107002_1, .int .i64 x107003_1, .int .i64 x107004_1] (0, 0) _ rfl (by (with_reducible repeat (first | refine blk_drewN ?_ _ | refine blk_drew ?_ | refine blk_alloc ?_ _)); refine blk_put (cs := #[.int .i64 x107000_1, .int .i64 x107001_1, .int .i64 x107002_1, .int .i64 x107003_1, .int .i64 0]) ?_ 4 _ rfl; (with_reducible repeat (first | refine blk_drewN ?_ _ | refine blk_drew ?_ | refine blk_alloc ?_ _)); refine blk_put (cs := #[.int .i64 x107000_1, .int .i64 x107001_1, .int .i64 x107002_1, .int .i64 0, .int .i64 0]) ?_ 3 _ rfl; (with_reducible repeat (first | refine blk_drewN ?_ _ | refine blk_drew ?_ | refine blk_alloc ?_ _)); refine blk_put (cs := #[.int .i64 x107000_1, .int .i64 x107001_1, .int .i64 0, .int .i64 0, .int .i64 0]) ?_ 2 _ rfl; (with_reducible repeat (first | refine blk_drewN ?_ _ | refine blk_drew ?_ | refine blk_alloc ?_ _)); refine blk_put (cs := #[.int .i64 x107000_1, .int .i64 0, .int .i64 0, .int .i64 0, .int .i64 0]) ?_ 1 _ rfl; (with_reducible repeat (first | refine blk_drewN ?_ _ | refine blk_drew ?_ | refine blk_alloc ?_ _)); refine blk_put (cs := #[.int .i64 0, .int .i64 0, .int .i64 0, .int .i64 0, .int .i64 0]) ?_ 0 _ rfl; (with_reducible repeat (first | refine blk_drewN ?_ _ | refine blk_drew ?_ | refine blk_alloc ?_ _)); exact BK101.out) Tryz.underlying95 rfl (by kernel_rfl)) rfl ?_
     exact ⟨by first | rfl | (simp [errW_none, errW_some] <;> rfl) | (simp [*, errW_none, errW_some] <;> rfl), by repeat (first | (with_reducible first | exact HB.out | apply below_alloc | apply pw_below_drewN | apply below_drew1 | refine below_set ?_ GE101.out | refine below_set ?_ GE106.out) | exact HB.out)⟩
 ·rw [if_neg c4] at H
  have c4b0 : (t103 == 0) = false := beq_eq_false_iff_ne.mpr c4
  have c4b1 : (t103 != 0) = true := bne_iff_ne.mpr c4
  simp only [Option.some.injEq, Prod.mk.injEq] at H
  obtain ⟨rfl, rfl, rfl, rfl, rfl, rfl⟩ := H
  go_enter Tryz.func53, Tryz.ntmps53
  go_wp2_with (first | ((with_reducible refine gate_dst (N := 4) rfl ?_); refine box_event ?hg (N := 4) ?hd (cs := #[.int .i64 0, .int .i64 0, .int .i64 0, .int .i64 0, .int .i64 0]) (t := 95) ?hr ?_; (case hd => rfl); (case hg => rfl); (case hr => first | (go_simp; done) | (go_simp; rfl)); intro gb101 hg w25 hbox hb; have n0_ := Aside0.mk (below_step (ws_ HB.out) hb); have n1_ := Aside0.mk (hbox); have n2_ := Aside0.mk ((by rw [hg]; exact (below_size (ws_ HB.out)) : w.heap.size ≤ gb101)); have n3_ := Aside0.mk ((by rw [hg]; exact (below_size (ws_ HB.out)) : w.heap.size ≤ gb101)); clear HB; have HB := n0_; have BK101 := n1_; have GW101 := n2_; have GE101 := n3_; clear n0_ n1_ n2_ n3_; clear hb hbox hg) | ((with_reducible refine gate_callee (f := 121) rfl ?_); refine gl_ (some 14) Tryz.func121 #[.slice A0 l0.length c0, .slice A1 l1.length c1] ?_; (with_reducible refine (market_settle.calls k _ _ l0 _ _ l1 t102 t103 _ ?side1 ?side2 ?side3 ?side4 A3.out).mono ?_); (case side1 => exact cs_ (Kd.C_below HR0.out HB.out)); (case side2 => exact HC0.out); (case side3 => exact cs_ (Kd.C_below HR1.out HB.out)); (case side4 => exact HC1.out); rintro e w26 ⟨v104, rfl, ho0, hb⟩; refine ⟨_, rfl, ?_⟩; have n0_ := Aside0.mk (Kd.R_lower ho0 (below_size (wg_ HB.out GE101.out))); have n1_ := Aside0.mk (blk_below (g := gb101) (o := .cells #[.int .i64 0, .int .i64 0, .int .i64 0, .int .i64 0, .int .i64 0] 95 (0, 0)) (bs_ BK101.out) hb); have n2_ := Aside0.mk (below_step (wg_ HB.out GE101.out) hb); clear BK101; clear HB; have HO105 := n0_; have BK101 := n1_; have HB := n2_; clear n0_ n1_ n2_; (try clear hb); (try clear hb2); (try clear hk); (try clear hi); (try clear ho0); have hcz27_0 : w26.cell? ⟨gb101, 0, none⟩ = some (.int .i64 0) := (blk_cell BK101.out 0).trans rfl; have hcz27_1 : w26.cell? ⟨gb101, 1, none⟩ = some (.int .i64 0) := (blk_cell BK101.out 1).trans rfl; have hcz27_2 : w26.cell? ⟨gb101, 2, none⟩ = some (.int .i64 0) := (blk_cell BK101.out 2).trans rfl; have hcz27_3 : w26.cell? ⟨gb101, 3, none⟩ = some (.int .i64 0) := (blk_cell BK101.out 3).trans rfl; have hcz27_4 : w26.cell? ⟨gb101, 4, none⟩ = some (.int .i64 0) := (blk_cell BK101.out 4).trans rfl; have hfz27_0 := blk_frozen BK101.out 0; have hfz27_1 := blk_frozen BK101.out 1; have hfz27_2 := blk_frozen BK101.out 2; have hfz27_3 := blk_frozen BK101.out 3; have hfz27_4 := blk_frozen BK101.out 4))
  refine bodyPost_ret (results_ct rfl _ _ gb101 95 #[.int .i64 0, .int .i64 0, .int .i64 0, .int .i64 0, .int .i64 0] (0, 0) _ rfl (by (with_reducible repeat (first | refine blk_drewN ?_ _ | refine blk_drew ?_ | refine blk_alloc ?_ _)); refine blk_put (cs := #[.int .i64 0, .int .i64 0, .int .i64 0, .int .i64 0, .int .i64 0]) ?_ 4 _ rfl; (with_reducible repeat (first | refine blk_drewN ?_ _ | refine blk_drew ?_ | refine blk_alloc ?_ _)); refine blk_put (cs := #[.int .i64 0, .int .i64 0, .int .i64 0, .int .i64 0, .int .i64 0]) ?_ 3 _ rfl; (with_reducible repeat (first | refine blk_drewN ?_ _ | refine blk_drew ?_ | refine blk_alloc ?_ _)); refine blk_put (cs := #[.int .i64 0, .int .i64 0, .int .i64 0, .int .i64 0, .int .i64 0]) ?_ 2 _ rfl; (with_reducible repeat (first | refine blk_drewN ?_ _ | refine blk_drew ?_ | refine blk_alloc ?_ _)); refine blk_put (cs := #[.int .i64 0, .int .i64 0, .int .i64 0, .int .i64 0, .int .i64 0]) ?_ 1 _ rfl; (with_reducible repeat (first | refine blk_drewN ?_ _ | refine blk_drew ?_ | refine blk_alloc ?_ _)); refine blk_put (cs := #[.int .i64 0, .int .i64 0, .int .i64 0, .int .i64 0, .int .i64 0]) ?_ 0 _ rfl; (with_reducible repeat (first | refine blk_drewN ?_ _ | refine blk_drew ?_ | refine blk_alloc ?_ _)); exact BK101.out) Tryz.underlying95 rfl (by kernel_rfl)) rfl ?_
  exact ⟨by first | rfl | (simp [errW_none, errW_some] <;> rfl) | (simp [*, errW_none, errW_some] <;> rfl), by repeat (first | (with_reducible first | exact HB.out | apply below_alloc | apply pw_below_drewN | apply below_drew1 | refine below_set ?_ GE101.out) | exact HB.out)⟩
end Go.Proofs.YtfdlhbdcejlopaaGreatDoor.B
namespace Go.Proofs.YtfdlhbdcejlopaaGreatDoor.B
open Go.RowKit Go.Shelf Go.Proofs.YtfdlhbdcejlopaaGreatDoorW.PrintWords Go.Proofs.YtfdlhbdcejlopaaGreatDoorW.PrintLast Go.Proofs.YtfdlhbdcejlopaaGreatDoorW.PrintMore
set_option linter.unusedVariables false
set_option linter.unusedSimpArgs false
attribute [local go_sem] Oper.semAt_some
def nthO (q : Int) (l : List S156) (j : Nat) : Int × Int := (outs q l).getD j (0, 0)
theorem outs_getD (q : Int) (l0 : List S156) (k : Int) (h0 : 0 ≤ k) (h1 : k < l0.length) (s : S156) (hs : rd_T156 l0 k = s) : nthO q l0 k.toNat = (rd s.f1 q, s.f0) := by
 unfold nthO
 rw [List.getD_eq_getElem?_getD, List.getElem?_eq_getElem (by simp [outs]; omega)]
 simp only [outs, List.getElem_map, Option.getD_some]
 rw [← hs, rd_T156, List.getD_eq_getElem?_getD, List.getElem?_eq_getElem (by omega)]
 rfl
set_option maxRecDepth 100000 in
set_option maxHeartbeats 2000000 in
theorem out_stopsN (n : Nat) (hn : 1 ≤ n) (w0 w : World) (hw : Below w0.heap.size w0 w) (Bl Bq : Nat) (A : Option Addr) (c : Nat) (l0 : List S156) (q : Int)
  (hBl : w.cell? ⟨Bl, 0, none⟩ = some (.slice A l0.length c)) (hBq : w.cell? ⟨Bq, 0, none⟩ = some (.int .i64 q)) (hr : Kd.C k156 w0 A l0.length l0) (hc0 : l0.length ≤ c) (hq : 0 ≤ q) (hall : ∀ s ∈ l0, q < s.f1.length) :
  SeqStopsK Fence.wide n Tryz.prog 151 #[.pointer (some ⟨Bl, 0, none⟩), .pointer (some ⟨Bq, 0, none⟩)] (fun j : Nat => outEnc (nthO q l0 j)) (KpOut w0.heap.size Bq) (fun js => js = List.range l0.length) (fun _ => True) l0.length w := fun l J Jx W hW hJ hJx hY h0 => by
 refine callsIn_of_wp Tryz.func151 rfl trivial ?_ rfl
 simp only [Tryz.ntmps151, List.size_toArray, List.length_cons, List.length_nil, Nat.reduceAdd, Nat.reduceSub, Array.replicate_succ, Array.replicate_zero, List.push_toArray, List.append_toArray, List.nil_append, List.cons_append]
 have hcl := pw_cell_below hW hBl
 have hcq := pw_cell_below hW hBq
 have hlen : (outs q l0).length = l0.length := by simp [outs]
 gi_wp2
 gi_loopw [8] (fun i wr => ∃ k : Int, 0 ≤ k ∧ k ≤ l0.length ∧ i = .int .i64 k ∧ Aside0 (Below w0.heap.size w0 wr) ∧ Aside0 (wr.cell? ⟨Bq, 0, none⟩ = some (.int .i64 q)) ∧ Aside0 (J (List.range k.toNat) wr)) (fun i _ => l0.length - (intOf i).toNat)
 case atStart => exact ⟨0, by omega, by omega, rfl, ⟨hw.trans (hW.mono hw.size)⟩, ⟨hcq⟩, ⟨by simpa using h0⟩⟩
 case round =>
  obtain ⟨k, hk0, hk, rfl, HB, HQ, HJ⟩ := hrel
  by_cases hlt : k < l0.length
  ·obtain ⟨ad, A1, c1, e, hx0, hx1, hl1, hi1⟩ := at_T156 (Kd.C_below hr HB.out) k hk0 hlt
   cases e
   obtain ⟨s, hs⟩ : ∃ s, rd_T156 l0 k = s := ⟨_, rfl⟩
   have hsl : s ∈ l0 := by
    rw [← hs, rd_T156, List.getD_eq_getElem?_getD, List.getElem?_eq_getElem (by omega)]
    exact List.getElem_mem _
   have hqs := hall s hsl
   rw [hs] at hx0 hx1 hl1 hi1
   obtain ⟨ad1, e1, hcell⟩ := Kd.at_int hi1 q hq hqs
   cases e1
   have hu156 := Tryz.underlying156
   have hcqr := HQ.out
   have b0 : decide (k < (l0.length : Int)) = true := decide_eq_true hlt
   have p0 := eq_true hk0
   have q0 := eq_true hlt
   have p1 := eq_true hq
   have q1 := eq_true hqs
   gi_wp2
   have hJ1 := abides_alloc_drew hJ HJ.out (.cells #[.int .i64 s.f0, .slice (some ad1) s.f1.length c1] 156)
   have hy0 := hY _ k.toNat _ hJ1 (by rw [List.length_range]; omega)
   obtain ⟨fn, tmps, assign, body, hy, hR⟩ := hy0
   have hR' : RoundIn Fence.wide (n - 1) Tryz.prog l fn tmps assign body _ (fun e W' => ∃ b : Bool, e = .returned (.bool b) ∧ Aside0 ((b = true → J (List.range k.toNat ++ [k.toNat]) W' ∧ KpOut w0.heap.size Bq (wr.alloc (.cells #[.int .i64 s.f0, .slice (some ad1) s.f1.length c1] 156)).drew W') ∧ (b = false → Jx (List.range k.toNat ++ [k.toNat]) W'))) := hR.mono (by
    rintro e W' (⟨rfl, h1, h2⟩ | ⟨rfl, h1⟩)
    ·exact ⟨true, rfl, ⟨fun _ => ⟨h1, h2⟩, (fun h => by cases h)⟩⟩
    ·exact ⟨false, rfl, ⟨(fun h => by cases h), fun _ => h1⟩⟩)
   clear hR
   have hgd : nthO q l0 k.toNat = (rd s.f1 q, s.f0) := outs_getD q l0 k hk0 hlt s hs
   simp only [hgd, outEnc] at hy
   clear hgd
   have hd1 : (wr.alloc (.cells #[.int .i64 s.f0, .slice (some ad1) s.f1.length c1] 156)).drew.cell? ⟨Bq, 0, none⟩ = some (.int .i64 q) := pw_cell_below (below_alloc (Below.refl _ _) _) hcqr
   have hd2 : (wr.alloc (.cells #[.int .i64 s.f0, .slice (some ad1) s.f1.length c1] 156)).drew.cell? (ad1.add q.toNat) = some (.int .i64 (rd s.f1 q)) := pw_cell_below (below_alloc (Below.refl _ _) _) hcell
   gi_region_with (refine hR'.mono ?_; rintro e W1 ⟨b, rfl, hb⟩)
   all_goals
    cases b
    ·gi_wp2
     refine bodyPost_ret (results_none rfl _ _ _) rfl ?_
     exact ⟨⟨_, rfl⟩, .inr ⟨_, hb.out.2 (by simp)⟩⟩
    ·gi_wp2
     have hwk : wrap64 (k + 1) = k + 1 := by have := hr.2.1; unfold wrap64; omega
     refine ⟨⟨k + 1, by omega, by omega, by rw [hwk], ⟨?_⟩, ⟨?_⟩, ⟨?_⟩⟩, by rw [hwk]; simp [intOf]; omega⟩
     ·exact (below_drew (below_alloc HB.out _)).trans (hb.out.1 (by simp)).2.1
     ·exact (hb.out.1 (by simp)).2.cell hd1
     ·rw [show List.range (k + 1).toNat = List.range k.toNat ++ [k.toNat] from by rw [show (k + 1).toNat = k.toNat + 1 by omega]; exact List.range_succ]
      exact (hb.out.1 (by simp)).1
  ·have b0 : decide (k < (l0.length : Int)) = false := decide_eq_false hlt
   gi_wp2
   go_end0
   refine ⟨⟨_, rfl⟩, .inl ?_⟩
   have := HJ.out
   rw [show k.toNat = l0.length by omega] at this
   exact this
end Go.Proofs.YtfdlhbdcejlopaaGreatDoor.B
namespace Go.Proofs.YtfdlhbdcejlopaaGreatDoor.B
open Go.RowKit Go.WideMaps Go.Proofs.YtfdlhbdcejlopaaGreatDoorW.PrintWords Go.Proofs.YtfdlhbdcejlopaaGreatDoorW.PrintLast Go.Proofs.YtfdlhbdcejlopaaGreatDoorW.PrintMore
set_option linter.unusedVariables false
def scan (g : Int → Int) (lo : Int) : Nat → Int × Int × Bool
 | 0 => (0, 0, false)
 | k + 1 => let s := scan g lo k; if (!s.2.2 || decide (g (lo + k) > s.2.1)) = true then (lo + k, g (lo + k), true) else s
def earnW (fee price b a : Int) : Int := wrap64 (wrap64 (price * wrap64 (b - a)) - wrap64 (fee * mx (wrap64 (a - b)) 0))
def lowK (pow b : Int) : Int := mx 0 (b - pow)
def cntK (cap pow b : Int) : Nat := (mn cap (b + pow) + 1 - lowK pow b).toNat
def valK (cap pow fee : Int) : List Int → Int → Int
 | [], _ => 0
 | p :: ps, b => (scan (fun a => wrap64 (earnW fee p b a + valK cap pow fee ps a)) (lowK pow b) (cntK cap pow b)).2.1
def nextK (cap pow fee : Int) (p : Int) (ps : List Int) (b : Int) : Int × Int :=
 let s := scan (fun a => wrap64 (earnW fee p b a + valK cap pow fee ps a)) (lowK pow b) (cntK cap pow b)
 (s.1, s.2.1)
def planK (cap pow fee : Int) : List Int → Int → List Int
 | [], _ => []
 | p :: ps, b => let a := (nextK cap pow fee p ps b).1; a :: planK cap pow fee ps a
theorem Tryz.arr25 : ArrKey Tryz.prog 25 3 2 := ⟨Tryz.underlying25, by kernel_rfl, by kernel_rfl, by kernel_rfl⟩
theorem Tryz.laidOut : laidOutB Tryz.prog = true := by kernel_rfl
theorem Tryz.row25 : (25 : TypeId) < Tryz.prog.types.size := of_decide_eq_true (by kernel_rfl)
theorem Tryz.keyAt25 : Tryz.prog.keyTypeAt 2 25 = true := by kernel_rfl
theorem Tryz.law25 : KeyLaw Tryz.prog 25 := deep_law_laid Tryz.laidOut (m := 2) (by omega) Tryz.row25 Tryz.keyAt25 (by rw [Tryz.underlying25])
theorem Tryz.keyed25 : Maps.Keyed Tryz.prog 25 := Maps.Keyed.of_law Tryz.law25
theorem Tryz.types_succ : ∃ m, Tryz.prog.types.size = m + 1 := Nat.exists_eq_succ_of_ne_zero (Nat.ne_of_gt (Nat.lt_of_le_of_lt (Nat.zero_le _) Tryz.row25))
def W64 (n : Int) : Prop := -9223372036854775808 ≤ n ∧ n ≤ 9223372036854775807
theorem wf64 {n : Int} (h : W64 n) : (Lit.int .i64 n).wf = true := by
 obtain ⟨h1, h2⟩ := h
 simp [Lit.wf]
 exact ⟨h1, h2⟩
def kk (q b : Int) : Lit := .string (keyBytes [.int .i64 q, .int .i64 b])
theorem kk_some {q b : Int} (hq : W64 q) (hb : W64 b) : keyOf Tryz.prog 25 (.agg #[.int .i64 q, .int .i64 b]) = some (kk q b) :=
 keyOf_pair Tryz.arr25 Tryz.underlying3 Tryz.types_succ (wf64 hq) (wf64 hb)
theorem kk_inj {q b q' b' : Int} (hq : W64 q) (hb : W64 b) (hq' : W64 q') (hb' : W64 b') (h : kk q b = kk q' b') : q = q' ∧ b = b' := by
 have h1 := kk_some hq hb
 rw [h] at h1
 have := Tryz.keyed25.inj h1 (kk_some hq' hb')
 simp at this
 exact this
theorem kk_key {q b : Int} (hq : W64 q) (hb : W64 b) : WideAt.IsKeyLit (kk q b) := Tryz.keyed25.key (kk_some hq hb)
end Go.Proofs.YtfdlhbdcejlopaaGreatDoor.B
namespace Go.Proofs.YtfdlhbdcejlopaaGreatDoor.B
open Go.RowKit Go.WideMaps Go.Proofs.YtfdlhbdcejlopaaGreatDoorW.PrintWords Go.Proofs.YtfdlhbdcejlopaaGreatDoorW.PrintLast Go.Proofs.YtfdlhbdcejlopaaGreatDoorW.PrintMore
set_option linter.unusedVariables false
theorem w64_nat {n : Nat} (h : n ≤ 200) : W64 (n : Int) := by unfold W64; omega
theorem w64_small {b cap : Int} (h0 : 0 ≤ b) (h : b ≤ cap) (hc : cap ≤ 64) : W64 b := by unfold W64; omega
def Memo (cap pow fee : Int) (ps : List Int) (D : DataW Unit) : Prop :=
 ∀ (q : Nat) (b : Int), q ≤ 200 → 0 ≤ b → b ≤ cap → Maps.has D (kk q b) = true → ∀ z, D.atKey (kk q b) z = .lit (.int .i64 (valK cap pow fee (ps.drop q) b))
def KeptBefore (q : Nat) (cap : Int) (D D' : DataW Unit) : Prop := ∀ (q' : Nat) (b : Int), q' ≤ 200 → q' < q → 0 ≤ b → b ≤ cap → Maps.has D' (kk q' b) = Maps.has D (kk q' b)
theorem KeptBefore.refl (q : Nat) (cap : Int) (D : DataW Unit) : KeptBefore q cap D D := fun _ _ _ _ _ _ => rfl
theorem KeptBefore.trans {q : Nat} {cap : Int} {D D' D'' : DataW Unit} (h : KeptBefore q cap D D') (k : KeptBefore q cap D' D'') : KeptBefore q cap D D'' := fun q' b h1 h2 h3 h4 => (k q' b h1 h2 h3 h4).trans (h q' b h1 h2 h3 h4)
theorem KeptBefore.mono {q p : Nat} {cap : Int} {D D' : DataW Unit} (h : KeptBefore q cap D D') (hp : p ≤ q) : KeptBefore p cap D D' := fun q' b h1 h2 h3 h4 => h q' b h1 (by omega) h3 h4
def gridK (n : Nat) (cap : Int) : List (Nat × Int) := (List.range n).flatMap fun q => (List.range (cap.toNat + 1)).map fun (b : Nat) => (q, (b : Int))
def cntM (n : Nat) (cap : Int) (D : DataW Unit) : Nat := (gridK n cap).countP fun x => Maps.has D (kk x.1 x.2)
theorem grid_mem {n : Nat} {cap : Int} {q : Nat} {b : Int} : (q, b) ∈ gridK n cap ↔ q < n ∧ 0 ≤ b ∧ b.toNat ≤ cap.toNat := by
 unfold gridK
 simp only [List.mem_flatMap, List.mem_range, List.mem_map, Prod.mk.injEq]
 constructor
 ·rintro ⟨q', h1, b', h2, rfl, rfl⟩
  omega
 ·rintro ⟨h1, h2, h3⟩
  exact ⟨q, h1, b.toNat, by omega, rfl, by omega⟩
theorem grid_len (n : Nat) (cap : Int) : (gridK n cap).length = n * (cap.toNat + 1) := by
 unfold gridK
 induction n with
 | zero => simp
 | succ n ih =>
  rw [show List.range (n + 1) = List.range n ++ [n] from List.range_succ, List.flatMap_append, List.length_append, ih]
  simp
  rw [Nat.succ_mul]
theorem cnt_small {n : Nat} {cap : Int} (D : DataW Unit) (hn : n ≤ 96) (hc : cap ≤ 64) : cntM n cap D < maxLen := by
 have h1 : cntM n cap D ≤ (gridK n cap).length := List.countP_le_length
 rw [grid_len] at h1
 have h2 : n * (cap.toNat + 1) ≤ 96 * 65 := Nat.mul_le_mul hn (by omega)
 unfold maxLen
 omega
theorem countP_more {α : Type} {p p' : α → Bool} (x : α) : ∀ {l : List α}, x ∈ l → p x = false → p' x = true → (∀ y ∈ l, p y = true → p' y = true) → l.countP p + 1 ≤ l.countP p'
 | y :: l, hx, hp, hp', h => by
  rw [List.countP_cons, List.countP_cons]
  have hle : l.countP p ≤ l.countP p' := List.countP_mono_left (fun z hz => h z (List.mem_cons_of_mem _ hz))
  rcases List.mem_cons.1 hx with rfl | hx
  ·simp [hp, hp']
   exact hle
  ·have := countP_more x hx hp hp' (fun z hz => h z (List.mem_cons_of_mem _ hz))
   by_cases hy : p y = true
   ·simp [hy, h y List.mem_cons_self hy]
    omega
   ·simp [hy]
    omega
theorem cnt_put {n : Nat} {cap : Int} {D : DataW Unit} {q : Nat} {b : Int} (d : DataW Unit) (hD : Maps.IsMap D) (hq : q < n) (hn : n ≤ 96) (h0 : 0 ≤ b) (hb : b ≤ cap) (hc : cap ≤ 64) (hno : Maps.has D (kk q b) = false) :
  cntM n cap D + 1 ≤ cntM n cap (D.put (kk q b) d) := by
 refine countP_more (q, b) (grid_mem.2 ⟨hq, h0, by omega⟩) hno (Maps.has_put_same hD (kk_key (w64_nat (by omega)) (w64_small h0 hb hc)) d) ?_
 rintro ⟨q', b'⟩ hm hh
 by_cases e : kk q' b' = kk q b
 ·simp only [e]
  exact Maps.has_put_same hD (kk_key (w64_nat (by omega)) (w64_small h0 hb hc)) d
 ·simp only at hh ⊢
  rw [Maps.has_put_other e]
  exact hh
theorem memo_put {cap pow fee : Int} {ps : List Int} {D : DataW Unit} {q : Nat} {b : Int} (hD : Maps.IsMap D) (hq : q ≤ 200) (h0 : 0 ≤ b) (hb : b ≤ cap) (hc : cap ≤ 64) (h : Memo cap pow fee ps D) :
  Memo cap pow fee ps (D.put (kk q b) (.lit (.int .i64 (valK cap pow fee (ps.drop q) b)))) := by
 intro q' b' h1 h2 h3 h4 z
 by_cases e : kk (q' : Int) b' = kk q b
 ·obtain ⟨e1, rfl⟩ := kk_inj (w64_nat h1) (w64_small h2 h3 hc) (w64_nat hq) (w64_small h0 hb hc) e
  obtain rfl : q' = q := by omega
  exact Maps.atKey_put_same hD (kk_key (w64_nat hq) (w64_small h0 hb hc)) _ _
 ·rw [Maps.has_put_other e] at h4
  rw [Maps.atKey_put_other e]
  exact h q' b' h1 h2 h3 h4 z
theorem kept_put {q : Nat} {cap : Int} {D : DataW Unit} {b : Int} (d : DataW Unit) (hq : q ≤ 200) (h0 : 0 ≤ b) (hb : b ≤ cap) (hc : cap ≤ 64) : KeptBefore q cap D (D.put (kk q b) d) := by
 intro q' b' h1 h2 h3 h4
 rw [Maps.has_put_other]
 intro e
 have := (kk_inj (w64_nat h1) (w64_small h3 h4 hc) (w64_nat hq) (w64_small h0 hb hc) e).1
 omega
structure KS (w0 : World) (B g M : Nat) (cap pow beg fee : Int) (A : Option Addr) (c : Nat) (ps : List Int) (D : DataW Unit) (w : World) : Prop where
 below : Below B w0 w
 blk : w.heap[g]? = some (.cells #[.int .i64 cap, .int .i64 pow, .int .i64 beg, .int .i64 fee, .slice A ps.length c, .map (some M)] 189 (0, 0))
 own : w.ownsMap Tryz.prog 25 (plainElem Tryz.prog 3) M (cntM ps.length cap D) D
 memo : Memo cap pow fee ps D
section
variable {w0 w w1 : World} {B g M : Nat} {cap pow beg fee : Int} {A : Option Addr} {c : Nat} {ps : List Int} {D D' : DataW Unit}
theorem KS.ne (h : KS w0 B g M cap pow beg fee A c ps D w) : g ≠ M := by
 rintro rfl
 obtain ⟨es, cl, hm, _⟩ := h.own
 rw [h.blk] at hm
 cases hm
theorem KS.lt (h : KS w0 B g M cap pow beg fee A c ps D w) : M < w.heap.size := h.own.lt
theorem KS.isMap (h : KS w0 B g M cap pow beg fee A c ps D w) : Maps.IsMap D := by
 obtain ⟨es, cl, hm, _, _, e⟩ := h.own
 exact ⟨_, e⟩
theorem KS.kept (h : KS w0 B g M cap pow beg fee A c ps D w) (hb : Below w.heap.size w w1) (hB : B ≤ w.heap.size) : KS w0 B g M cap pow beg fee A c ps D w1 :=
 ⟨h.below.trans (hb.mono hB), (hb.block g (blk_lt h.blk)).trans h.blk, h.own.kept (grown_of_below hb none) (by simp), h.memo⟩
theorem KS.drew (h : KS w0 B g M cap pow beg fee A c ps D w) (n : Nat) : KS w0 B g M cap pow beg fee A c ps D (w.drewN n) :=
 ⟨pw_below_drewN h.below n, h.blk, h.own, h.memo⟩
theorem KS.grown (h : KS w0 B g M cap pow beg fee A c ps D w) {row : Option Nat} (hg : w.grownBy w1 row) (hB : B ≤ w.heap.size) (hr : ∀ k, row = some k → B ≤ k) (h1 : some g ≠ row) (h2 : some M ≠ row) : KS w0 B g M cap pow beg fee A c ps D w1 :=
 ⟨h.below.grown hg hB hr, blk_grown h.blk hg h1, h.own.kept hg h2, h.memo⟩
end
end Go.Proofs.YtfdlhbdcejlopaaGreatDoor.B
namespace Go.Proofs.YtfdlhbdcejlopaaGreatDoor.B
open Go.RowKit Go.Proofs.YtfdlhbdcejlopaaGreatDoorW.PrintWords Go.Proofs.YtfdlhbdcejlopaaGreatDoorW.PrintLast Go.Proofs.YtfdlhbdcejlopaaGreatDoorW.PrintMore
attribute [local go_sem] max2_int min2_int max_two min_two
set_option linter.unusedVariables false
set_option linter.unusedSimpArgs false
/-! ### market_Store_earned: function 125 -/
def market_Store_earned.f (a0_0 : Int) (a0_1 : Int) (a0_2 : Int) (a0_3 : Int) (a1 : Int) (a2 : Int) (a3 : Int) : Option (Int) := some (wrap64 ((wrap64 (a1 * (wrap64 (a2 - a3)))) - (wrap64 (a0_3 * (mx (wrap64 (a3 - a2)) 0)))))
set_option maxHeartbeats 8000000 in
set_option maxRecDepth 100000 in
theorem market_Store_earned.calls (a0_0 : Int) (a0_1 : Int) (a0_2 : Int) (a0_3 : Int) (a1 : Int) (a2 : Int) (a3 : Int) (r : Int) (w : World) (h : market_Store_earned.f a0_0 a0_1 a0_2 a0_3 a1 a2 a3 = some r) :
  Calls Tryz.prog 125 #[.agg #[.int .i64 a0_0, .int .i64 a0_1, .int .i64 a0_2, .int .i64 a0_3], .int .i64 a1, .int .i64 a2, .int .i64 a3] w fun e w' => e = .returned (.int .i64 r) ∧ Below w.heap.size w w' := by
 have hu115 := Tryz.underlying115
 have HB := Aside0.mk (Below.refl w.heap.size w)
 have H : (some (wrap64 ((wrap64 (a1 * (wrap64 (a2 - a3)))) - (wrap64 (a0_3 * (mx (wrap64 (a3 - a2)) 0)))))) = some r := h
 clear h
 obtain ⟨ji5, hji5⟩ : ∃ j_ : Int, (mx (wrap64 (a3 - a2)) 0) = j_ := ⟨_, rfl⟩
 replace H : (some (wrap64 ((wrap64 (a1 * (wrap64 (a2 - a3)))) - (wrap64 (a0_3 * (ji5)))))) = some r := by first | (rw [hji5] at H; exact H) | (simp only [hji5] at H ⊢; exact H)
 (try (have hji5l : 0 ≤ ji5 := by (rw [← hji5]; unfold mx; (repeat' split) <;> omega)))
 (try (have hji5m : 0 ≤ ji5 := by omega))
 have hji5_ : (if (wrap64 (a3 - a2)) < 0 then 0 else (wrap64 (a3 - a2))) = ji5 := hji5
 obtain rfl := Option.some.inj H
 go_enter Tryz.func125, Tryz.ntmps125
 go_wp2_with (first | ((with_reducible refine gate_dst (N := 4) rfl ?_); refine box_event ?hg (N := 4) ?hd (cs := #[.int .i64 a0_0, .int .i64 a0_1, .int .i64 a0_2, .int .i64 a0_3]) (t := 115) ?hr ?_; (case hd => rfl); (case hg => rfl); (case hr => first | (go_simp; done) | (go_simp; rfl)); intro gb101 hg w6 hbox hb; have n0_ := Aside0.mk (below_step (ws_ HB.out) hb); have n1_ := Aside0.mk (hbox); have n2_ := Aside0.mk ((by rw [hg]; exact (below_size (ws_ HB.out)) : w.heap.size ≤ gb101)); have n3_ := Aside0.mk ((by rw [hg]; exact (below_size (ws_ HB.out)) : w.heap.size ≤ gb101)); clear HB; have HB := n0_; have BK101 := n1_; have GW101 := n2_; have GE101 := n3_; clear n0_ n1_ n2_ n3_; clear hb hbox hg; have hcz7_0 : w6.cell? ⟨gb101, 0, none⟩ = some (.int .i64 a0_0) := (blk_cell BK101.out 0).trans rfl; have hcz7_1 : w6.cell? ⟨gb101, 1, none⟩ = some (.int .i64 a0_1) := (blk_cell BK101.out 1).trans rfl; have hcz7_2 : w6.cell? ⟨gb101, 2, none⟩ = some (.int .i64 a0_2) := (blk_cell BK101.out 2).trans rfl; have hcz7_3 : w6.cell? ⟨gb101, 3, none⟩ = some (.int .i64 a0_3) := (blk_cell BK101.out 3).trans rfl; have hfz7_0 := blk_frozen BK101.out 0; have hfz7_1 := blk_frozen BK101.out 1; have hfz7_2 := blk_frozen BK101.out 2; have hfz7_3 := blk_frozen BK101.out 3))
 go_ret
 exact ⟨by first | rfl | (simp [errW_none, errW_some] <;> rfl) | (simp only [← hji5]; first | rfl | (simp [errW_none, errW_some] <;> rfl)) | (simp [*, errW_none, errW_some] <;> rfl), by repeat (first | (with_reducible first | exact HB.out | apply below_alloc | apply pw_below_drewN | apply below_drew1 | refine below_set ?_ GE101.out) | exact HB.out)⟩
end Go.Proofs.YtfdlhbdcejlopaaGreatDoor.B
namespace Go.Proofs.YtfdlhbdcejlopaaGreatDoor.B
open Go.RowKit Go.Proofs.YtfdlhbdcejlopaaGreatDoorW.PrintWords Go.Proofs.YtfdlhbdcejlopaaGreatDoorW.PrintLast Go.Proofs.YtfdlhbdcejlopaaGreatDoorW.PrintMore
set_option linter.unusedVariables false
def noPanic (Q : Exit → Act → World → Prop) : Exit → Act → World → Prop
 | .panic _, _, _ => False
 | e, a, w => Q e a w
theorem wp_noPanic {P : Program} {c : Code} {Q : Exit → Act → World → Prop} {a : Act} {w : World} (h : c.wp P (noPanic Q) a w) : c.wp P Q a w :=
 wp_mono h (fun e a w h => by cases e <;> first | exact h | exact h.elim)
section
variable {P : Program} {md : Region.Mode} {ops : Array Oper} {Q : Exit → Act → World → Prop} {S : World → Prop} {ds : List Nat}
theorem pu_ (i : Nat) (N : Tmp) {oi : Oper} {v : Value} {fuel : Nat} {l : Array Bool} {a : Act} {w : World} {a' : Act} (hi : ops[i]? = some oi := by rfl) (hN : oi.dst = some N := by rfl) (hc : anyB md ops l (l.setIfInBounds i true) i = true := by decide +kernel)
  (hQ : ∀ c a w, Q (.panic c) (a.put oi.dst v) w → Q (.panic c) a w := by exact fun _ _ _ h => h)
  (hw : Region.wanted oi (yielded ops a.tmps) = true := by rfl)
  (hy : ∀ w, (execOp a.eval oi).run P w = .ok (.value v) w := by (intro w'; go_simp; first | done | with_reducible rfl))
  (ha : a.put (some N) v = a' := by (simp only [Act.put, List.setIfInBounds_toArray, List.set_cons_zero, List.set_cons_succ, i64_w, i32_w]; rfl))
  (h : wpAnyLast P md ops Q S ds fuel (l.setIfInBounds i true) a' w) : wpAnyLast P md ops Q S ds (fuel + 1) l a w :=
 pure_ (i := i) (N := some N) _ hi hN hc hQ (Or.inl ⟨hw, hy⟩) ha h
theorem ta_ (i : Nat) (N : Tmp) {oi : Oper} {v : Value} {fuel : Nat} {l : Array Bool} {a : Act} {w : World} {a' : Act} (hS : S w) (hi : ops[i]? = some oi := by rfl) (hN : oi.dst = some N := by rfl) (hc : takeB md ops ds l (l.setIfInBounds i true) i = true := by decide +kernel)
  (hQ : ∀ c a w, Q (.panic c) (a.put oi.dst v) w → Q (.panic c) a w := by exact fun _ _ _ h => h)
  (hw : Region.wanted oi (yielded ops a.tmps) = true := by rfl)
  (hy : ∀ w, S w → (execOp a.eval oi).run P w = .ok (.value v) w := by (intro w' hs'; go_simp; first | done | with_reducible rfl))
  (ha : a.put (some N) v = a' := by (simp only [Act.put, List.setIfInBounds_toArray, List.set_cons_zero, List.set_cons_succ, i64_w, i32_w]; rfl))
  (h : wpAnyLast P md ops Q S ds fuel (l.setIfInBounds i true) a' w) : wpAnyLast P md ops Q S ds (fuel + 1) l a w :=
 take_ (i := i) (N := some N) _ hi hN hc hQ (Or.inl ⟨hw, hy⟩) hS ha h
theorem un_ (i : Nat) (N : Tmp) {oi : Oper} {fuel : Nat} {l : Array Bool} {a : Act} {w : World} {a' : Act} (hi : ops[i]? = some oi := by rfl) (hN : oi.dst = some N := by rfl) (hc : anyB md ops l (l.setIfInBounds i true) i = true := by decide +kernel)
  (hQ : ∀ c a w, Q (.panic c) (a.put oi.dst undef) w → Q (.panic c) a w := by exact fun _ _ _ h => h)
  (hw : Region.wanted oi (yielded ops a.tmps) = false := by rfl)
  (ha : a.put (some N) undef = a' := by (simp only [Act.put, List.setIfInBounds_toArray, List.set_cons_zero, List.set_cons_succ, i64_w, i32_w]; rfl))
  (h : wpAnyLast P md ops Q S ds fuel (l.setIfInBounds i true) a' w) : wpAnyLast P md ops Q S ds (fuel + 1) l a w :=
 pure_ (i := i) (N := some N) _ hi hN hc hQ (Or.inr ⟨hw, rfl⟩) ha h
theorem ma_ (i : Nat) (N : Tmp) {oi : Oper} {v : Value} {w1 : World} {fuel : Nat} {l : Array Bool} {a : Act} {w : World} {a' : Act} (hi : ops[i]? = some oi := by rfl) (hN : oi.dst = some N := by rfl) (hc : readyB md ops l (l.setIfInBounds i true) i = true := by decide +kernel)
  (hd : i ∉ ds := by decide) (hw : Region.wanted oi (yielded ops a.tmps) = true := by rfl) (hrun : (execOp a.eval oi).run P w = .ok (.value v) w1 := by (go_simp; first | done | with_reducible rfl))
  (ha : a.put (some N) v = a' := by (simp only [Act.put, List.setIfInBounds_toArray, List.set_cons_zero, List.set_cons_succ, i64_w, i32_w]; rfl))
  (hs : S w1) (h : S w1 → wpAnyLast P md ops Q S ds fuel (l.setIfInBounds i true) a' w1) : wpAnyLast P md ops Q S ds (fuel + 1) l a w := by
 subst ha
 refine one_ (i := i) (N := some N) _ hi hN hc hd (fun K hK => ?_)
 exact value_ hw hN hrun (hK.out _ _ hs h)
theorem ca_ (i : Nat) (N : Tmp) {f : FuncId} {fn : Func} {as_ : Array Operand} {ts : Array TypeId} (args : Array Value) {oi : Oper} {fuel : Nat} {l : Array Bool} {a : Act} {w : World} (hi : ops[i]? = some oi := by rfl) (hN : oi.dst = some N := by rfl) (hc : readyB md ops l (l.setIfInBounds i true) i = true := by decide +kernel)
  (hd : i ∉ ds := by decide) (hw : Region.wanted oi (yielded ops a.tmps) = true := by rfl) (hop : oi.op = .call { callee := .value (.func f), args := as_, argTypes := ts } := by rfl) (hf : P.funcs[f]? = some fn) (hname : (fn.name == "runtime.NumGoroutine") = false := by kernel_rfl) (hb : fn.body.isSome = true := by rfl)
  (hargs : as_.map a.eval = args := by ((try simp only [List.map_toArray, List.map_cons, List.map_nil]); first | done | rfl))
  (h : Calls P f args w fun e w' => ∃ v, e = .returned v ∧ S w' ∧ (S w' → ∃ a', a.put (some N) v = a' ∧ wpAnyLast P md ops Q S ds fuel (l.setIfInBounds i true) a' w')) : wpAnyLast P md ops Q S ds (fuel + 1) l a w := by
 refine one_ (i := i) (N := some N) _ hi hN hc hd (fun K hK => ?_)
 refine goes_ hf hname hb args hw hN hop hargs ?_
 refine h.mono ?_
 rintro e w' ⟨v, rfl, hs, hk⟩
 refine ⟨v, rfl, hK.out _ _ hs fun hs' => ?_⟩
 obtain ⟨a', rfl, hk'⟩ := hk hs'
 exact hk'
end
end Go.Proofs.YtfdlhbdcejlopaaGreatDoor.B
namespace Go.Proofs.YtfdlhbdcejlopaaGreatDoor.B
open Go.RowKit Go.WideMaps Go.Proofs.YtfdlhbdcejlopaaGreatDoorW.PrintWords Go.Proofs.YtfdlhbdcejlopaaGreatDoorW.PrintLast Go.Proofs.YtfdlhbdcejlopaaGreatDoorW.PrintMore
attribute [local go_sem] max2_int min2_int max_two min_two i64_w
set_option linter.unusedVariables false
set_option linter.unusedSimpArgs false
theorem w64 (n : Int) (h : -9223372036854775808 ≤ n ∧ n ≤ 9223372036854775807) : wrap64 n = n := by unfold wrap64; omega
structure KPost (w0 : World) (g M : Nat) (cap pow beg fee : Int) (A : Option Addr) (c : Nat) (ps : List Int) (q : Nat) (D : DataW Unit) (w w' : World) : Prop where
 grown : w.grownBy w' (some M)
 kept : ∃ D', KS w0 w0.heap.size g M cap pow beg fee A c ps D' w' ∧ KeptBefore q cap D D'
def nextAt (cap pow fee : Int) (ps : List Int) (q : Nat) (b : Int) : Int × Int := nextK cap pow fee (ps.getD q 0) (ps.drop (q + 1)) b
theorem valK_drop (cap pow fee : Int) (ps : List Int) (q : Nat) (b : Int) (h : q < ps.length) : valK cap pow fee (ps.drop q) b = (nextAt cap pow fee ps q b).2 := by
 rw [List.drop_eq_getElem_cons h]
 unfold nextAt nextK
 rw [valK, List.getD_eq_getElem?_getD, List.getElem?_eq_getElem h]
 rfl
section
variable (w0 : World) (g M : Nat) (cap pow beg fee : Int) (A : Option Addr) (c : Nat) (ps : List Int)
def FromOk (q : Nat) : Prop := ∀ (b : Int) (D : DataW Unit) (w : World), 0 ≤ b → b ≤ cap → KS w0 w0.heap.size g M cap pow beg fee A c ps D w →
 Calls Tryz.prog 127 #[.pointer (some ⟨g, 0, none⟩), .int .i64 q, .int .i64 b] w fun e w' => e = .returned (.int .i64 (valK cap pow fee (ps.drop q) b)) ∧ KPost w0 g M cap pow beg fee A c ps q D w w'
def NextOk (q : Nat) : Prop := ∀ (b : Int) (D : DataW Unit) (w : World), 0 ≤ b → b ≤ cap → KS w0 w0.heap.size g M cap pow beg fee A c ps D w →
 Calls Tryz.prog 126 #[.pointer (some ⟨g, 0, none⟩), .int .i64 q, .int .i64 b] w fun e w' => e = .returned (.tuple #[.int .i64 (nextAt cap pow fee ps q b).1, .int .i64 (nextAt cap pow fee ps q b).2]) ∧ KPost w0 g M cap pow beg fee A c ps (q + 1) D w w'
end
section
variable {w0 : World} {g M : Nat} {cap pow beg fee : Int} {A : Option Addr} {c : Nat} {ps : List Int}
set_option maxRecDepth 100000 in
set_option maxHeartbeats 1000000 in
/-- Behind the last quarter. -/
theorem from_end (hc : ps.length ≤ c) (hn : ps.length ≤ 96) : FromOk w0 g M cap pow beg fee A c ps ps.length := by
 intro b D w h0 hb hk
 have hc0 := (blk_cell hk.blk 4).trans rfl
 have HK := Aside0.mk hk
 clear hk
 have e0 : ((ps.length : Int) == (ps.length : Int)) = true := by simp
 rw [List.drop_length]
 go_enter Tryz.func127, Tryz.ntmps127
 go_wp2
 go_ret
 exact ⟨rfl, ⟨⟨rfl, rfl, rfl, Nat.le_refl _, fun _ _ _ => rfl⟩, D, HK.out, KeptBefore.refl _ _ _⟩⟩
theorem grown_alloc_drewN (w : World) (o : Obj) (n : Nat) (row : Option Nat) : w.grownBy ((w.alloc o).drewN n) row := by
 have h := World.grownBy_alloc w o row
 exact ⟨h.os, h.tape, h.output, h.size, h.block⟩
theorem grown_drewN (w : World) (n : Nat) (row : Option Nat) : w.grownBy (w.drewN n) row := ⟨rfl, rfl, rfl, Nat.le_refl _, fun _ _ _ => rfl⟩
theorem Kd.at_int_ {w : World} {ad : Addr} {n : Nat} {xs : List Int} (h : Kd.C (Kd.int .i64) w (some ad) n xs) (i : Int) (h0 : 0 ≤ i) (h1 : i < n) : w.cell? (ad.add i.toNat) = some (.int .i64 (rd xs i)) := by
 obtain ⟨ad', e, hc⟩ := Kd.at_int h i h0 h1
 cases e
 exact hc
theorem KS.drew1 {D : DataW Unit} {w : World} (h : KS w0 w0.heap.size g M cap pow beg fee A c ps D w) : KS w0 w0.heap.size g M cap pow beg fee A c ps D w.drew :=
 ⟨below_drew1 h.below, h.blk, h.own, h.memo⟩
theorem zero3 (w : World) : (zeroValue 3).run Tryz.prog w = .ok (.int .i64 0) w := by kernel_rfl
theorem KS.look {D : DataW Unit} {w : World} (hk : KS w0 w0.heap.size g M cap pow beg fee A c ps D w) (q : Nat) (b : Int) (hq : q < ps.length) (hn : ps.length ≤ 96) (h0 : 0 ≤ b) (hb : b ≤ cap) (hcap : cap ≤ 64) :
  ∃ v : Int, (Instr.lookup 187 (.map (some M)) (.agg #[.int .i64 q, .int .i64 b]) true).run Tryz.prog w = .ok (.tuple #[.int .i64 v, .bool (Maps.has D (kk q b))]) w ∧ (Maps.has D (kk q b) = true → v = valK cap pow fee (ps.drop q) b) := by
 obtain ⟨v, qs, hrun, hv⟩ := hk.own.look_ok (w := w) (t := 187) (e := 3) Tryz.keyed25 Tryz.underlying187 (zero3 w) (zd := .lit (.int .i64 0)) (zp := []) (plainElem_int Tryz.underlying3 (by decide)) (kk_some (q := q) (b := b) (w64_nat (by omega)) (w64_small h0 hb hcap))
 obtain ⟨x, rfl, hx, hw⟩ := plainElem_int_inv Tryz.underlying3 hv
 refine ⟨x, hrun, fun hh => ?_⟩
 have h1 := hk.memo q b (by omega) h0 hb hh (.lit (.int .i64 0))
 have h2 := congrArg Prod.fst hx
 simp only at h2
 rw [h1] at h2
 cases h2
 rfl
set_option maxRecDepth 100000 in
set_option maxHeartbeats 1000000 in
/-- What is kept. -/
theorem from_hit {q : Nat} (hc : ps.length ≤ c) (hn : ps.length ≤ 96) (hcap : cap ≤ 64) (hq : q < ps.length) (b : Int) (D : DataW Unit) (w : World) (h0 : 0 ≤ b) (hb : b ≤ cap) (hk : KS w0 w0.heap.size g M cap pow beg fee A c ps D w) (hh : Maps.has D (kk q b) = true) :
  Calls Tryz.prog 127 #[.pointer (some ⟨g, 0, none⟩), .int .i64 q, .int .i64 b] w fun e w' => e = .returned (.int .i64 (valK cap pow fee (ps.drop q) b)) ∧ KPost w0 g M cap pow beg fee A c ps q D w w' := by
 have hB : w0.heap.size ≤ w.heap.size := hk.below.size
 have hk1 : KS w0 w0.heap.size g M cap pow beg fee A c ps D (w.alloc (.cells #[.int .i64 q, .int .i64 b] 25)) := hk.kept (below_alloc (Below.refl _ _) _) hB
 have hl : ∀ nq, ((Instr.lookup 187 (.map (some M)) (.agg #[.int .i64 q, .int .i64 b]) true).run Tryz.prog ((w.alloc (.cells #[.int .i64 q, .int .i64 b] 25)).drewN nq) = .ok (.tuple #[.int .i64 (valK cap pow fee (ps.drop q) b), .bool true]) ((w.alloc (.cells #[.int .i64 q, .int .i64 b] 25)).drewN nq)) := fun nq => by
  obtain ⟨v, h1, h2⟩ := (hk1.drew nq).look q b hq hn h0 hb hcap
  rw [hh] at h1
  rw [h2 hh] at h1
  exact h1
 have hc0 := (blk_cell hk.blk 4).trans rfl
 have hc5 := (blk_cell hk.blk 5).trans rfl
 have hglt := blk_lt hk.blk
 have e0 : ((q : Int) == (ps.length : Int)) = false := by simp; omega
 have HK1 := Aside0.mk hk1
 have HH := Aside0.mk hh
 clear hk hk1 hh hB
 go_enter Tryz.func127, Tryz.ntmps127
 go_wp2
 go_quiet (fail)
 go_wp2
 go_ret
 exact ⟨rfl, ⟨grown_alloc_drewN w _ nq _, D, HK1.out.drew nq, KeptBefore.refl _ _ _⟩⟩
theorem scan_w64 (g : Int → Int) (hg : ∀ x, W64 (g x)) (lo : Int) : ∀ k, W64 (scan g lo k).2.1
 | 0 => by show W64 0; unfold W64; omega
 | k + 1 => by
  unfold scan
  simp only
  split
  ·exact hg _
  ·exact scan_w64 g hg lo k
theorem scan_step (g : Int → Int) (lo : Int) (k : Nat) (a : Int) (ha : a = lo + k) : scan g lo (k + 1) = if (!(scan g lo k).2.2 || decide (g a > (scan g lo k).2.1)) = true then (a, g a, true) else scan g lo k := by
 subst ha
 rfl
theorem wrap64_w64 (n : Int) : W64 (wrap64 n) := by unfold W64 wrap64; omega
theorem nextAt_w64 (cap pow fee : Int) (ps : List Int) (q : Nat) (b : Int) : W64 (nextAt cap pow fee ps q b).2 := by
 unfold nextAt nextK
 exact scan_w64 _ (fun x => wrap64_w64 _) _ _
theorem from_put {q : Nat} {b : Int} {D D1 : DataW Unit} {w w1 w2 : World} {o : Obj} {nq : Nat} (hn : ps.length ≤ 96) (hcap : cap ≤ 64) (hq : q < ps.length) (h0 : 0 ≤ b) (hb : b ≤ cap) (hk : KS w0 w0.heap.size g M cap pow beg fee A c ps D1 (w1.drewN 1)) (hno : Maps.has D1 (kk q b) = false)
  (hd : KeptBefore (q + 1) cap D D1) (hg : ((w.alloc o).drewN nq).grownBy w1 (some M)) (hown : w2.ownsMap Tryz.prog 25 (plainElem Tryz.prog 3) M (cntM ps.length cap D1 + 1) (D1.put (kk q b) (.lit (.int .i64 (nextAt cap pow fee ps q b).2)))) (hg2 : (w1.drewN 1).grownBy w2 (some M)) (hM : w0.heap.size ≤ M) :
  KPost w0 g M cap pow beg fee A c ps q D w w2 := by
 have hB := hk.below.size
 refine ⟨(grown_alloc_drewN w o nq _).trans (World.grownBy.trans hg ?_), _, ⟨hk.below.grown hg2 hB (fun k e => by cases e; exact hM), blk_grown hk.blk hg2 (fun e => hk.ne (Option.some.inj e)), hown.mono (cnt_put _ hk.isMap hq hn h0 hb hcap hno), ?_⟩, ?_⟩
 ·exact ⟨hg2.os, hg2.tape, hg2.output, hg2.size, hg2.block⟩
 ·rw [← valK_drop _ _ _ _ _ _ hq]
  exact memo_put hk.isMap (by omega) h0 hb hcap hk.memo
 ·exact (hd.mono (by omega)).trans (kept_put _ (by omega) h0 hb hcap)
set_option maxRecDepth 100000 in
set_option maxHeartbeats 1000000 in
/-- What is not kept yet. -/
theorem from_miss {q : Nat} (hM : w0.heap.size ≤ M) (hc : ps.length ≤ c) (hn : ps.length ≤ 96) (hcap : cap ≤ 64) (hq : q < ps.length) (hnext : NextOk w0 g M cap pow beg fee A c ps q) (b : Int) (D : DataW Unit) (w : World) (h0 : 0 ≤ b) (hb : b ≤ cap) (hk : KS w0 w0.heap.size g M cap pow beg fee A c ps D w) (hh : Maps.has D (kk q b) = false) :
  Calls Tryz.prog 127 #[.pointer (some ⟨g, 0, none⟩), .int .i64 q, .int .i64 b] w fun e w' => e = .returned (.int .i64 (valK cap pow fee (ps.drop q) b)) ∧ KPost w0 g M cap pow beg fee A c ps q D w w' := by
 rw [valK_drop _ _ _ _ _ _ hq]
 have hB : w0.heap.size ≤ w.heap.size := hk.below.size
 have hk1 : KS w0 w0.heap.size g M cap pow beg fee A c ps D (w.alloc (.cells #[.int .i64 q, .int .i64 b] 25)) := hk.kept (below_alloc (Below.refl _ _) _) hB
 obtain ⟨v, hl⟩ : ∃ v : Int, ∀ nq, ((Instr.lookup 187 (.map (some M)) (.agg #[.int .i64 q, .int .i64 b]) true).run Tryz.prog ((w.alloc (.cells #[.int .i64 q, .int .i64 b] 25)).drewN nq) = .ok (.tuple #[.int .i64 v, .bool false]) ((w.alloc (.cells #[.int .i64 q, .int .i64 b] 25)).drewN nq)) := by
  refine ⟨0, fun nq => ?_⟩
  obtain ⟨v, qs, h1, h2⟩ := (hk1.drew nq).own.look_ok (t := 187) (e := 3) Tryz.keyed25 Tryz.underlying187 (zero3 _) (zd := .lit (.int .i64 0)) (zp := []) (plainElem_int Tryz.underlying3 (by decide)) (kk_some (q := q) (b := b) (w64_nat (by omega)) (w64_small h0 hb hcap))
  rw [hh] at h1
  rw [Maps.atKey_of_not_has hh] at h2
  obtain ⟨x, rfl, hx, hw⟩ := plainElem_int_inv Tryz.underlying3 h2
  cases hx
  exact h1
 have hc0 := (blk_cell hk.blk 4).trans rfl
 have hc5 := (blk_cell hk.blk 5).trans rfl
 have hglt := blk_lt hk.blk
 have hbk : (w.alloc (.cells #[.int .i64 q, .int .i64 b] 25)).heap[w.heap.size]? = some (.cells #[.int .i64 q, .int .i64 b] 25 (0, 0)) := blk_new w _
 have e0 : ((q : Int) == (ps.length : Int)) = false := by simp; omega
 have hMlt := hk.lt
 have HK1 := Aside0.mk hk1
 have HH := Aside0.mk hh
 have HN := Aside0.mk hnext
 have HBK := Aside0.mk hbk
 clear hk hk1 hh hB hnext hbk
 go_enter Tryz.func127, Tryz.ntmps127
 go_wp2
 go_quiet (fail)
 go_wp2_with fail
 refine (HN.out b D _ h0 hb (HK1.out.drew nq)).mono ?_
 rintro e w1 ⟨rfl, hp⟩
 obtain ⟨hg, D1, hk1, hd1⟩ := hp
 have hbk1 := blk_grown (blk_drewN HBK.out nq) hg (by simp; omega)
 have hc5 : w1.cell? ⟨g, 5, none⟩ = some (.map (some M)) := (blk_cell hk1.blk 5).trans rfl
 have hp0 : w1.cell? ⟨w.heap.size, 0, none⟩ = some (.int .i64 q) := (blk_cell hbk1 0).trans rfl
 have hp1 : w1.cell? ⟨w.heap.size, 1, none⟩ = some (.int .i64 b) := (blk_cell hbk1 1).trans rfl
 go_wp2_with fail
 have hno : Maps.has D1 (kk q b) = false := (hd1 q b (by omega) (by omega) h0 hb).trans HH.out
 have HK2 := Aside0.mk (hk1.drew 1)
 have HNO := Aside0.mk hno
 have HD1 := Aside0.mk hd1
 have HG := Aside0.mk hg
 clear hk1 hno hd1 hg
 go_still_tail 6, (by kernel_rfl)
 refine wpList_mapUpdate_own (H := Unit) _ rfl _ _ _ 187 rfl 25 3 Tryz.keyed25 Tryz.underlying187 (plainElem Tryz.prog 3) M (cntM ps.length cap D1) D1 rfl HK2.out.own (cnt_small D1 hn hcap) (.agg #[.int .i64 q, .int .i64 b]) (.int .i64 (nextAt cap pow fee ps q b).2) (kk q b) rfl rfl (kk_some (w64_nat (by omega)) (w64_small h0 hb hcap)) (.lit (.int .i64 (nextAt cap pow fee ps q b).2)) [] (plainElem_int Tryz.underlying3 (wf64 (nextAt_w64 _ _ _ _ _ _))) ?_
 intro w2 hown hg2
 have HF := Aside0.mk (from_put hn hcap hq h0 hb HK2.out HNO.out HD1.out HG.out hown hg2 hM)
 clear hown hg2
 go_wp2
 go_ret
 exact ⟨rfl, HF.out⟩
set_option maxRecDepth 100000 in
set_option maxHeartbeats 1000000 in
theorem next_any {q : Nat} (hM : w0.heap.size ≤ M) (hc : ps.length ≤ c) (hn : ps.length ≤ 96) (hcap : cap ≤ 64) (hp1 : 1 ≤ pow) (hp2 : pow ≤ 64) (hq : q < ps.length) (hA : Kd.C (Kd.int .i64) w0 A ps.length ps) (hfrom : FromOk w0 g M cap pow beg fee A c ps (q + 1)) : NextOk w0 g M cap pow beg fee A c ps q := by
 intro b D w h0 hb hk
 have hc0 : w.cell? ⟨g, 0, none⟩ = some (.int .i64 cap) := (blk_cell hk.blk 0).trans rfl
 have hc1 : w.cell? ⟨g, 1, none⟩ = some (.int .i64 pow) := (blk_cell hk.blk 1).trans rfl
 have HK := Aside0.mk hk
 have HA := Aside0.mk hA
 have HF := Aside0.mk hfrom
 clear hk hA hfrom
 have hb64 : b ≤ 64 := by omega
 obtain ⟨lo, hlo⟩ : ∃ j, lowK pow b = j := ⟨_, rfl⟩
 have hlo0 : 0 ≤ lo := by rw [← hlo]; unfold lowK mx; split <;> omega
 have hlob : lo ≤ b := by rw [← hlo]; unfold lowK mx; split <;> omega
 have hlo_ : (if 0 < wrap64 (b - pow) then wrap64 (b - pow) else 0) = lo := by rw [w64 _ (by omega), ← hlo]; rfl
 have HLO := Aside0.mk hlo
 clear hlo
 go_enter Tryz.func126, Tryz.ntmps126
 go_wp2
 obtain ⟨hi, hhi⟩ : ∃ j, mn cap (b + pow) = j := ⟨_, rfl⟩
 have hhib : b ≤ hi := by rw [← hhi]; unfold mn; split <;> omega
 have hhic : hi ≤ cap := by rw [← hhi]; unfold mn; split <;> omega
 have hhi_ : (if wrap64 (b + pow) < cap then wrap64 (b + pow) else cap) = hi := by rw [w64 _ (by omega)]; exact hhi
 have HHI := Aside0.mk hhi
 clear hhi
 obtain ⟨G, hG⟩ : ∃ G : Int → Int, (fun a => wrap64 (earnW fee (ps.getD q 0) b a + valK cap pow fee (ps.drop (q + 1)) a)) = G := ⟨_, rfl⟩
 have HG := Aside0.mk hG
 clear hG
 go_loopw [8, 9, 10, 11] (fun va vm vf vk wr => ∃ (k : Nat) (D' : DataW Unit) (a : Int), Aside0 (a = lo + k) ∧ a ≤ hi + 1 ∧ lo ≤ a ∧ va = .int .i64 (scan G lo k).1 ∧ vm = .int .i64 (scan G lo k).2.1 ∧ vf = .bool (scan G lo k).2.2 ∧ vk = .int .i64 a ∧ Aside0 (KS w0 w0.heap.size g M cap pow beg fee A c ps D' wr) ∧ Aside0 (w.grownBy wr (some M)) ∧ Aside0 (KeptBefore (q + 1) cap D D')) (fun _ _ _ vk _ => (hi + 1 - intOf vk).toNat)
 case atStart => exact ⟨0, D, lo, ⟨by simp⟩, by omega, by omega, rfl, rfl, rfl, rfl, HK, ⟨⟨rfl, rfl, rfl, Nat.le_refl _, fun _ _ _ => rfl⟩⟩, ⟨KeptBefore.refl _ _ _⟩⟩
 case round =>
  obtain ⟨k, D', a, hak, ha1, ha0, rfl, rfl, rfl, rfl, hk_, hg, hd⟩ := hrel
  clear hc0 hc1
  have hc0 : wr.cell? ⟨g, 0, none⟩ = some (.int .i64 cap) := (blk_cell hk_.out.blk 0).trans rfl
  have hc1 : wr.cell? ⟨g, 1, none⟩ = some (.int .i64 pow) := (blk_cell hk_.out.blk 1).trans rfl
  by_cases hlt : a ≤ hi
  ·go_wp2
   go_quiet (fail)
   have hk1 := hk_.out.drew nq
   have hA1 := Kd.C_below HA.out hk1.below
   obtain ⟨ad, e1, hpc⟩ := Kd.at_int hA1 (q : Int) (by omega) (by omega)
   subst e1
   have hpr : rd ps (q : Int) = ps.getD q 0 := rfl
   rw [hpr] at hpc
   obtain ⟨p, hp⟩ : ∃ p, ps.getD q 0 = p := ⟨_, rfl⟩
   rw [hp] at hpc
   have HQ0 : Aside0 (0 ≤ (q : Int)) := ⟨by omega⟩
   have HQ1 : Aside0 ((q : Int) < ps.length) := ⟨by omega⟩
   have b0 : wrap64 ((q : Int) + 1) = (q : Int) + 1 := w64 _ (by omega)
   go_wp2
   refine start_ (n := 21) (S := fun w' => w'.cell? ⟨g, 0, none⟩ = some (.int .i64 cap) ∧ w'.cell? ⟨g, 1, none⟩ = some (.int .i64 pow) ∧ w'.cell? ⟨g, 2, none⟩ = some (.int .i64 beg) ∧ w'.cell? ⟨g, 3, none⟩ = some (.int .i64 fee) ∧ w'.cell? ⟨g, 4, none⟩ = some (.slice (some ad) ps.length c) ∧ w'.cell? (ad.add q) = some (.int .i64 p)) (ds := []) #[false, false, false, false, false, false, false, false, false, false, false, false, false, false, false, false, false, false, false, false, false] (by kernel_rfl) rfl rfl ⟨(blk_cell hk1.blk 0).trans rfl, (blk_cell hk1.blk 1).trans rfl, (blk_cell hk1.blk 2).trans rfl, (blk_cell hk1.blk 3).trans rfl, (blk_cell hk1.blk 4).trans rfl, hpc⟩ (fun hHeld => ?_)
   refine pu_ 0 38 (h := ?_)
   refine pu_ 1 39 (h := ?_)
   refine pu_ 2 40 (h := ?_)
   refine ta_ 3 41 hHeld (h := ?_)
   refine pu_ 4 42 (h := ?_)
   refine pu_ 5 43 (h := ?_)
   refine pu_ 6 44 (h := ?_)
   refine ta_ 7 45 hHeld (h := ?_)
   refine pu_ 8 46 (h := ?_)
   refine pu_ 9 47 (h := ?_)
   refine ta_ 10 48 hHeld (h := ?_)
   refine pu_ 11 49 (h := ?_)
   refine pu_ 12 50 (h := ?_)
   refine pu_ 14 52 (h := ?_)
   refine pu_ 15 53 (h := ?_)
   refine pu_ 16 54 (h := ?_)
   refine pu_ 17 55 (h := ?_)
   refine ca_ 13 51 (f := 125) (fn := Tryz.f125) #[.agg #[.int .i64 cap, .int .i64 pow, .int .i64 beg, .int .i64 fee], .int .i64 p, .int .i64 b, .int .i64 a] (hf := Tryz.func125) (h := ?_)
   refine (market_Store_earned.calls cap pow beg fee p b a (earnW fee p b a) _ rfl).mono ?_
   rintro e w2 ⟨rfl, hb2⟩
   have hk2 := hk1.drew1.kept hb2 hk1.below.size
   have hg2 : w.grownBy w2 (some M) := hg.out.trans ((grown_drewN wr nq _).trans ((grown_drewN _ 1 _).trans (grown_of_below hb2 _)))
   clear hk1 hb2 hHeld hc0 hc1
   refine ⟨_, rfl, ⟨(blk_cell hk2.blk 0).trans rfl, (blk_cell hk2.blk 1).trans rfl, (blk_cell hk2.blk 2).trans rfl, (blk_cell hk2.blk 3).trans rfl, (blk_cell hk2.blk 4).trans rfl, (Kd.at_int_ (Kd.C_below HA.out hk2.below) (q : Int) HQ0.out HQ1.out).trans (by rw [hpr, hp])⟩, fun hHeld => ⟨_, rfl, ?_⟩⟩
   refine ca_ 18 56 (f := 127) (fn := Tryz.f127) #[.pointer (some ⟨g, 0, none⟩), .int .i64 ((q : Int) + 1), .int .i64 a] (hf := Tryz.func127) (h := ?_)
   refine (HF.out a D' w2 (by omega) (by omega) hk2).mono ?_
   rintro e w3 ⟨rfl, hp3⟩
   obtain ⟨hg3, D3, hk3, hd3⟩ := hp3
   clear hHeld hk2
   refine ⟨_, rfl, ⟨(blk_cell hk3.blk 0).trans rfl, (blk_cell hk3.blk 1).trans rfl, (blk_cell hk3.blk 2).trans rfl, (blk_cell hk3.blk 3).trans rfl, (blk_cell hk3.blk 4).trans rfl, (Kd.at_int_ (Kd.C_below HA.out hk3.below) (q : Int) HQ0.out HQ1.out).trans (by rw [hpr, hp])⟩, fun hHeld => ⟨_, rfl, ?_⟩⟩
   refine pu_ 19 57 (h := ?_)
   refine pu_ 20 12 (h := ?_)
   refine done_ (by kernel_rfl) ?_
   have HS := Aside0.mk (scan_step G lo k a hak.out)
   have hGa : wrap64 (earnW fee p b a + valK cap pow fee (List.drop (q + 1) ps) a) = G a := by rw [← hp]; exact congrFun HG.out a
   obtain ⟨n, hn⟩ : ∃ n, G a = n := ⟨_, rfl⟩
   rw [hn] at hGa HS
   clear hn
   have HAK : Aside0 (a + 1 = lo + ((k + 1 : Nat) : Int)) := ⟨by have := hak.out; push_cast; omega⟩
   have hwa : wrap64 (a + 1) = a + 1 := w64 _ (by omega)
   have HG3 : Aside0 (w.grownBy w3 (some M)) := ⟨hg2.trans hg3⟩
   have HD3 : Aside0 (KeptBefore (q + 1) cap D D3) := ⟨hd.out.trans hd3⟩
   have HK3 := Aside0.mk hk3
   clear hak hg2 hg3 hd hd3 hk3 hg HHI
   rw [hp] at *
   obtain ⟨s, hs⟩ : ∃ s, scan G lo k = s := ⟨_, rfl⟩
   rw [hs] at HS ⊢
   clear hs
   obtain ⟨s0, s1, s2⟩ := s
   dsimp only at HS ⊢
   cases s2
   ·go_wp2
    go_roundw
    case rel =>
     refine ⟨k + 1, D3, a + 1, HAK, by omega, by omega, ?_, ?_, ?_, rfl, HK3, HG3, HD3⟩
     all_goals
      rw [HS.out]
      first | rfl | exact congrArg (Value.int .i64) hGa
    case measure =>
     simp [intOf]
     omega
   ·by_cases hgt : n > s1
    ·have hgt1 : s1 < n := hgt
     go_wp2
     go_roundw
     case rel =>
      refine ⟨k + 1, D3, a + 1, HAK, by omega, by omega, ?_, ?_, ?_, rfl, HK3, HG3, HD3⟩
      all_goals
       rw [HS.out]
       simp [hgt1, hGa]
     case measure =>
      simp [intOf]
      omega
    ·have hgt1 : n ≤ s1 := by omega
     go_wp2
     go_roundw
     case rel =>
      refine ⟨k + 1, D3, a + 1, HAK, by omega, by omega, ?_, ?_, ?_, rfl, HK3, HG3, HD3⟩
      all_goals
       rw [HS.out]
       simp [hgt]
     case measure =>
      simp [intOf]
      omega
  ·have hae : a = hi + 1 := by omega
   have hk : k = cntK cap pow b := by
    have h1 := hak.out
    have h2 := HLO.out
    have h3 := HHI.out
    unfold cntK
    rw [h2, h3]
    omega
   have HE : Aside0 (nextAt cap pow fee ps q b = ((scan G lo k).1, (scan G lo k).2.1)) := ⟨by rw [hk, ← HLO.out, ← HG.out]; rfl⟩
   clear hak HLO HHI hae hk
   go_wp2
   go_quiet (fail)
   go_wp2
   go_ret2
   rw [HE.out]
   exact ⟨rfl, ⟨hg.out.trans (grown_drewN wr nq _), D', hk_.out.drew nq, hd.out⟩⟩
theorem keep_all (hM : w0.heap.size ≤ M) (hc : ps.length ≤ c) (hn : ps.length ≤ 96) (hcap : cap ≤ 64) (hp1 : 1 ≤ pow) (hp2 : pow ≤ 64) (hA : Kd.C (Kd.int .i64) w0 A ps.length ps) :
  ∀ d : Nat, d ≤ ps.length → FromOk w0 g M cap pow beg fee A c ps (ps.length - d) ∧ (0 < d → NextOk w0 g M cap pow beg fee A c ps (ps.length - d))
 | 0, _ => ⟨from_end hc hn, fun h => absurd h (Nat.lt_irrefl 0)⟩
 | d + 1, h => by
  have ih := (keep_all hM hc hn hcap hp1 hp2 hA d (by omega)).1
  have e : ps.length - d = ps.length - (d + 1) + 1 := by omega
  rw [e] at ih
  have hq : ps.length - (d + 1) < ps.length := by omega
  have hnx := next_any hM hc hn hcap hp1 hp2 hq hA ih
  refine ⟨fun b D w h0 hb hk => ?_, fun _ => hnx⟩
  by_cases hh : Maps.has D (kk ((ps.length - (d + 1) : Nat) : Int) b) = true
  ·exact from_hit hc hn hcap hq b D w h0 hb hk hh
  ·exact from_miss hM hc hn hcap hq hnx b D w h0 hb hk (by simpa using hh)
theorem keep_from (hM : w0.heap.size ≤ M) (hc : ps.length ≤ c) (hn : ps.length ≤ 96) (hcap : cap ≤ 64) (hp1 : 1 ≤ pow) (hp2 : pow ≤ 64) (hA : Kd.C (Kd.int .i64) w0 A ps.length ps) (q : Nat) (hq : q ≤ ps.length) : FromOk w0 g M cap pow beg fee A c ps q := by
 have h := (keep_all (g := g) (beg := beg) (fee := fee) hM hc hn hcap hp1 hp2 hA (ps.length - q) (by omega)).1
 rwa [show ps.length - (ps.length - q) = q by omega] at h
theorem keep_next (hM : w0.heap.size ≤ M) (hc : ps.length ≤ c) (hn : ps.length ≤ 96) (hcap : cap ≤ 64) (hp1 : 1 ≤ pow) (hp2 : pow ≤ 64) (hA : Kd.C (Kd.int .i64) w0 A ps.length ps) (q : Nat) (hq : q < ps.length) : NextOk w0 g M cap pow beg fee A c ps q := by
 have h := (keep_all (g := g) (beg := beg) (fee := fee) hM hc hn hcap hp1 hp2 hA (ps.length - q) (by omega)).2 (by omega)
 rwa [show ps.length - (ps.length - q) = q by omega] at h
end
end Go.Proofs.YtfdlhbdcejlopaaGreatDoor.B
namespace Go.Proofs.YtfdlhbdcejlopaaGreatDoor.B
open Go.RowKit Go.Proofs.YtfdlhbdcejlopaaGreatDoorW.PrintWords Go.Proofs.YtfdlhbdcejlopaaGreatDoorW.PrintLast Go.Proofs.YtfdlhbdcejlopaaGreatDoorW.PrintMore
attribute [local go_sem] max2_int min2_int max_two min_two
set_option linter.unusedVariables false
set_option linter.unusedSimpArgs false
/-! ### market_CheckStore: function 68 -/
def market_CheckStore.f (k : Nat) (a0_0 : Int) (a0_1 : Int) (a0_2 : Int) (a0_3 : Int) : Option (Int) := (market_within.f a0_0 1 64).bind fun t102 => ((market_within.f a0_1 1 64).bind fun t103 => ((market_within.f a0_2 0 a0_0).bind fun t104 => ((market_checkPrice.f a0_3).bind fun t105 => ((market_first.f k (([t102, t103, t104, t105] : List Int))).bind fun t109 => (some t109)))))
def market_CheckStore.T1 : Bool × List (List Nat × List Nat) := (true, [([], []), ([0], [0]), ([1], [1]), ([], []), ([3], [3]), ([4, 2], [4]), ([], []), ([6], [6]), ([], []), ([8], [8]), ([7, 9, 5], [7, 9]), ([], []), ([11], [11]), ([12, 10], [12]), ([2, 5, 10, 13], [2, 5, 10, 13]), ([14, 13], [14]), ([15, 15, 0, 1, 2, 3, 4, 5, 6, 7, 8, 9, 10, 11, 12, 13, 14, 15], [15])])
def market_CheckStore.B1 : List Nat := [0, 1, 3, 0, 8, 31, 0, 64, 0, 256, 1023, 0, 2048, 8191, 16383, 32767, 65535]
theorem market_CheckStore.tab1 : rtab .any (opsOf Tryz.f68 1) = market_CheckStore.T1 := by kernel_rfl
theorem market_CheckStore.bits1 : waitsOk market_CheckStore.T1.2 market_CheckStore.B1 = true := by kernel_rfl
set_option maxHeartbeats 8000000 in
set_option maxRecDepth 100000 in
theorem market_CheckStore.calls (k : Nat) (a0_0 : Int) (a0_1 : Int) (a0_2 : Int) (a0_3 : Int) (r : Int) (w : World) (h : market_CheckStore.f k a0_0 a0_1 a0_2 a0_3 = some r) :
  Calls Tryz.prog 68 #[.agg #[.int .i64 a0_0, .int .i64 a0_1, .int .i64 a0_2, .int .i64 a0_3]] w fun e w' => e = .returned (.int .i64 r) ∧ Below w.heap.size w w' := by
 have hu115 := Tryz.underlying115
 have HB := Aside0.mk (Below.refl w.heap.size w)
 have H : ((market_within.f a0_0 1 64).bind fun t102 => ((market_within.f a0_1 1 64).bind fun t103 => ((market_within.f a0_2 0 a0_0).bind fun t104 => ((market_checkPrice.f a0_3).bind fun t105 => ((market_first.f k (([t102, t103, t104, t105] : List Int))).bind fun t109 => (some t109)))))) = some r := h
 clear h
 replace H := Option.bind_eq_some_iff.mp H
 obtain ⟨t102, A20, H⟩ := H
 replace H : ((market_within.f a0_1 1 64).bind fun t103 => ((market_within.f a0_2 0 a0_0).bind fun t104 => ((market_checkPrice.f a0_3).bind fun t105 => ((market_first.f k (([t102, t103, t104, t105] : List Int))).bind fun t109 => (some t109))))) = some r := H
 have A2 := Aside0.mk A20
 clear A20
 replace H := Option.bind_eq_some_iff.mp H
 obtain ⟨t103, A30, H⟩ := H
 replace H : ((market_within.f a0_2 0 a0_0).bind fun t104 => ((market_checkPrice.f a0_3).bind fun t105 => ((market_first.f k (([t102, t103, t104, t105] : List Int))).bind fun t109 => (some t109)))) = some r := H
 have A3 := Aside0.mk A30
 clear A30
 replace H := Option.bind_eq_some_iff.mp H
 obtain ⟨t104, A40, H⟩ := H
 replace H : ((market_checkPrice.f a0_3).bind fun t105 => ((market_first.f k (([t102, t103, t104, t105] : List Int))).bind fun t109 => (some t109))) = some r := H
 have A4 := Aside0.mk A40
 clear A40
 replace H := Option.bind_eq_some_iff.mp H
 obtain ⟨t105, A50, H⟩ := H
 replace H : ((market_first.f k (([t102, t103, t104, t105] : List Int))).bind fun t109 => (some t109)) = some r := H
 have A5 := Aside0.mk A50
 clear A50
 obtain ⟨y106, hy106⟩ : ∃ y_ : List Int, y_ = (([t102, t103, t104, t105] : List Int)) := ⟨_, rfl⟩
 replace H : ((market_first.f k y106).bind fun t109 => (some t109)) = some r := by first | (rw [hy106]; with_reducible exact H) | (have H2_ := (Option.bind_some _ _).symm.trans H; rw [hy106]; with_reducible exact H2_) | (have H2_ := (Option.bind_some _ _).symm.trans H; with_reducible exact H2_) | with_reducible exact H | (rw [hy106]; exact H) | exact H
 have Ny106 := Aside0.mk hy106
 clear hy106
 replace H := Option.bind_eq_some_iff.mp H
 obtain ⟨t109, A60, H⟩ := H
 replace H : (some t109) = some r := H
 have A6 := Aside0.mk A60
 clear A60
 obtain rfl := Option.some.inj H
 go_enter Tryz.func68, Tryz.ntmps68
 try go_wp2_with (first | ((with_reducible refine gate_dst (N := 1) rfl ?_); refine box_event ?hg (N := 1) ?hd (cs := #[.int .i64 a0_0, .int .i64 a0_1, .int .i64 a0_2, .int .i64 a0_3]) (t := 115) ?hr ?_; (case hd => rfl); (case hg => rfl); (case hr => first | (go_simp; done) | (go_simp; rfl)); intro gb101 hg w7 hbox hb; have n0_ := Aside0.mk (below_step (ws_ HB.out) hb); have n1_ := Aside0.mk (hbox); have n2_ := Aside0.mk ((by rw [hg]; exact (below_size (ws_ HB.out)) : w.heap.size ≤ gb101)); have n3_ := Aside0.mk ((by rw [hg]; exact (below_size (ws_ HB.out)) : w.heap.size ≤ gb101)); clear HB; have HB := n0_; have BK101 := n1_; have GW101 := n2_; have GE101 := n3_; clear n0_ n1_ n2_ n3_; clear hb hbox hg))
 have n0_ := Aside0.mk (blk_drew BK101.out)
 have n1_ := Aside0.mk (below_drew1 HB.out)
 clear BK101
 clear HB
 have BK101 := n0_
 have HB := n1_
 clear n0_ n1_
 refine start_ (n := 17) (S := fun w' => w'.cell? ⟨gb101, 0, none⟩ = some (.int .i64 a0_0) ∧ w'.cell? ⟨gb101, 1, none⟩ = some (.int .i64 a0_1) ∧ w'.cell? ⟨gb101, 2, none⟩ = some (.int .i64 a0_2) ∧ w'.cell? ⟨gb101, 3, none⟩ = some (.int .i64 a0_3)) (ds := []) #[false, false, false, false, false, false, false, false, false, false, false, false, false, false, false, false, false] (by kernel_rfl) rfl rfl ⟨(blk_cell BK101.out 0).trans rfl, (blk_cell BK101.out 1).trans rfl, (blk_cell BK101.out 2).trans rfl, (blk_cell BK101.out 3).trans rfl⟩ (fun hHeld => ?_); refine with_tabW market_CheckStore.tab1 market_CheckStore.bits1 (fun HT_ HW_ => ?_)
 generalize w7.drew = w8 at BK101 HB hHeld ⊢
 refine pv_ 0 3 #[true, false, false, false, false, false, false, false, false, false, false, false, false, false, false, false, false] (any_of HT_.out (by kernel_rfl)) ?_
 refine pv_ 3 6 #[true, false, false, true, false, false, false, false, false, false, false, false, false, false, false, false, false] (any_of HT_.out (by kernel_rfl)) ?_
 refine pv_ 6 9 #[true, false, false, true, false, false, true, false, false, false, false, false, false, false, false, false, false] (any_of HT_.out (by kernel_rfl)) ?_
 refine pv_ 8 11 #[true, false, false, true, false, false, true, false, true, false, false, false, false, false, false, false, false] (any_of HT_.out (by kernel_rfl)) ?_
 refine pv_ 11 14 #[true, false, false, true, false, false, true, false, true, false, false, true, false, false, false, false, false] (any_of HT_.out (by kernel_rfl)) ?_
 refine take_ (i := 1) (N := some 4) (v := ?_) (a' := ?_) #[true, true, false, true, false, false, true, false, true, false, false, true, false, false, false, false, false] rfl rfl (take_ofW HT_.out HW_.out (by kernel_rfl)) (fun _ _ _ h => h) (Or.inl ⟨by rfl, ?_⟩) hHeld ?_ ?_
 rotate_left
 ·rintro w' ⟨s0, s1, s2, s3⟩
  go_simp
  with_reducible rfl
 rotate_left
 ·simp only [Act.put, List.setIfInBounds_toArray, List.set_cons_zero, List.set_cons_succ, i64_w, i32_w]
  rfl
 refine take_ (i := 4) (N := some 7) (v := ?_) (a' := ?_) #[true, true, false, true, true, false, true, false, true, false, false, true, false, false, false, false, false] rfl rfl (take_ofW HT_.out HW_.out (by kernel_rfl)) (fun _ _ _ h => h) (Or.inl ⟨by rfl, ?_⟩) hHeld ?_ ?_
 rotate_left
 ·rintro w' ⟨s0, s1, s2, s3⟩
  go_simp
  with_reducible rfl
 rotate_left
 ·simp only [Act.put, List.setIfInBounds_toArray, List.set_cons_zero, List.set_cons_succ, i64_w, i32_w]
  rfl
 refine take_ (i := 7) (N := some 10) (v := ?_) (a' := ?_) #[true, true, false, true, true, false, true, true, true, false, false, true, false, false, false, false, false] rfl rfl (take_ofW HT_.out HW_.out (by kernel_rfl)) (fun _ _ _ h => h) (Or.inl ⟨by rfl, ?_⟩) hHeld ?_ ?_
 rotate_left
 ·rintro w' ⟨s0, s1, s2, s3⟩
  go_simp
  with_reducible rfl
 rotate_left
 ·simp only [Act.put, List.setIfInBounds_toArray, List.set_cons_zero, List.set_cons_succ, i64_w, i32_w]
  rfl
 refine take_ (i := 9) (N := some 12) (v := ?_) (a' := ?_) #[true, true, false, true, true, false, true, true, true, true, false, true, false, false, false, false, false] rfl rfl (take_ofW HT_.out HW_.out (by kernel_rfl)) (fun _ _ _ h => h) (Or.inl ⟨by rfl, ?_⟩) hHeld ?_ ?_
 rotate_left
 ·rintro w' ⟨s0, s1, s2, s3⟩
  go_simp
  with_reducible rfl
 rotate_left
 ·simp only [Act.put, List.setIfInBounds_toArray, List.set_cons_zero, List.set_cons_succ, i64_w, i32_w]
  rfl
 refine take_ (i := 12) (N := some 15) (v := ?_) (a' := ?_) #[true, true, false, true, true, false, true, true, true, true, false, true, true, false, false, false, false] rfl rfl (take_ofW HT_.out HW_.out (by kernel_rfl)) (fun _ _ _ h => h) (Or.inl ⟨by rfl, ?_⟩) hHeld ?_ ?_
 rotate_left
 ·rintro w' ⟨s0, s1, s2, s3⟩
  go_simp
  with_reducible rfl
 rotate_left
 ·simp only [Act.put, List.setIfInBounds_toArray, List.set_cons_zero, List.set_cons_succ, i64_w, i32_w]
  rfl
 refine one_ (i := 2) (N := some 5) #[true, true, true, true, true, false, true, true, true, true, false, true, true, false, false, false, false] rfl rfl (one_of HT_.out (by kernel_rfl)) (by decide) (fun K hK => ?_)
 refine goes_ Tryz.func91 (by kernel_rfl) rfl #[.int .i64 a0_0, .int .i64 1, .int .i64 64] (by rfl) rfl rfl (by (try simp only [List.map_toArray, List.map_cons, List.map_nil]); first | done | rfl | (simp only [List.length_drop, List.length_take]; rfl)) ?_
 with_reducible refine (market_within.calls a0_0 1 64 t102 _ A2.out).mono ?_
 rintro e w' ⟨rfl, ⟨nd, rfl⟩⟩
 refine ⟨_, rfl, ?_⟩
 refine hK.out _ _ ⟨(blk_cell BK101.out 0).trans rfl, (blk_cell BK101.out 1).trans rfl, (blk_cell BK101.out 2).trans rfl, (blk_cell BK101.out 3).trans rfl⟩ (fun hHeld => ?_)
 clear hK K
 refine norm_ (a' := ?_) ?_ ?_
 rotate_left
 ·show Act.put _ (some 5) _ = _
  simp only [Act.put, List.setIfInBounds_toArray, List.set_cons_zero, List.set_cons_succ, i64_w, i32_w]
  rfl
 refine one_ (i := 5) (N := some 8) #[true, true, true, true, true, true, true, true, true, true, false, true, true, false, false, false, false] rfl rfl (one_of HT_.out (by kernel_rfl)) (by decide) (fun K hK => ?_)
 refine goes_ Tryz.func91 (by kernel_rfl) rfl #[.int .i64 a0_1, .int .i64 1, .int .i64 64] (by rfl) rfl rfl (by (try simp only [List.map_toArray, List.map_cons, List.map_nil]); first | done | rfl | (simp only [List.length_drop, List.length_take]; rfl)) ?_
 with_reducible refine (market_within.calls a0_1 1 64 t103 _ A3.out).mono ?_
 rintro e w' ⟨rfl, ⟨nd, rfl⟩⟩
 refine ⟨_, rfl, ?_⟩
 refine hK.out _ _ ⟨(blk_cell BK101.out 0).trans rfl, (blk_cell BK101.out 1).trans rfl, (blk_cell BK101.out 2).trans rfl, (blk_cell BK101.out 3).trans rfl⟩ (fun hHeld => ?_)
 clear hK K
 refine norm_ (a' := ?_) ?_ ?_
 rotate_left
 ·show Act.put _ (some 8) _ = _
  simp only [Act.put, List.setIfInBounds_toArray, List.set_cons_zero, List.set_cons_succ, i64_w, i32_w]
  rfl
 refine one_ (i := 10) (N := some 13) #[true, true, true, true, true, true, true, true, true, true, true, true, true, false, false, false, false] rfl rfl (one_of HT_.out (by kernel_rfl)) (by decide) (fun K hK => ?_)
 refine goes_ Tryz.func91 (by kernel_rfl) rfl #[.int .i64 a0_2, .int .i64 0, .int .i64 a0_0] (by rfl) rfl rfl (by (try simp only [List.map_toArray, List.map_cons, List.map_nil]); first | done | rfl | (simp only [List.length_drop, List.length_take]; rfl)) ?_
 with_reducible refine (market_within.calls a0_2 0 a0_0 t104 _ A4.out).mono ?_
 rintro e w' ⟨rfl, ⟨nd, rfl⟩⟩
 refine ⟨_, rfl, ?_⟩
 refine hK.out _ _ ⟨(blk_cell BK101.out 0).trans rfl, (blk_cell BK101.out 1).trans rfl, (blk_cell BK101.out 2).trans rfl, (blk_cell BK101.out 3).trans rfl⟩ (fun hHeld => ?_)
 clear hK K
 refine norm_ (a' := ?_) ?_ ?_
 rotate_left
 ·show Act.put _ (some 13) _ = _
  simp only [Act.put, List.setIfInBounds_toArray, List.set_cons_zero, List.set_cons_succ, i64_w, i32_w]
  rfl
 refine one_ (i := 13) (N := some 16) #[true, true, true, true, true, true, true, true, true, true, true, true, true, true, false, false, false] rfl rfl (one_of HT_.out (by kernel_rfl)) (by decide) (fun K hK => ?_)
 refine goes_ Tryz.func93 (by kernel_rfl) rfl #[.int .i64 a0_3] (by rfl) rfl rfl (by (try simp only [List.map_toArray, List.map_cons, List.map_nil]); first | done | rfl | (simp only [List.length_drop, List.length_take]; rfl)) ?_
 with_reducible refine (market_checkPrice.calls a0_3 t105 _ A5.out).mono ?_
 rintro e w' ⟨rfl, ⟨nd, rfl⟩⟩
 refine ⟨_, rfl, ?_⟩
 refine hK.out _ _ ⟨(blk_cell BK101.out 0).trans rfl, (blk_cell BK101.out 1).trans rfl, (blk_cell BK101.out 2).trans rfl, (blk_cell BK101.out 3).trans rfl⟩ (fun hHeld => ?_)
 clear hK K
 refine norm_ (a' := ?_) ?_ ?_
 rotate_left
 ·show Act.put _ (some 16) _ = _
  simp only [Act.put, List.setIfInBounds_toArray, List.set_cons_zero, List.set_cons_succ, i64_w, i32_w]
  rfl
 refine one_ (i := 14) (N := some 17) #[true, true, true, true, true, true, true, true, true, true, true, true, true, true, true, false, false] rfl rfl (one_of HT_.out (by kernel_rfl)) (by decide) (fun K hK => ?_)
 refine Kd.R_lit_step (Kd.int .i64) _ 28 ?hg (N := 17) ?hd (xs := ([t102, t103, t104, t105] : List Int)) (inner := [.int .i64 t102, .int .i64 t103, .int .i64 t104, .int .i64 t105]) (ok := fun _ => True) (okp := fun _ => True) ?hr ?hp (fun _ hk => hk) trivial (Below.refl _ _) (Nat.le_refl _) (by simp) ?_; (case hd => rfl); (case hg => rfl); (case hr => first | (go_simp; done) | (go_simp; rfl)); (case hp => exact (Reps.one (show Kd.M (Kd.int .i64) _ _ _ t102 [.int .i64 t102] from rfl) (Reps.one (show Kd.M (Kd.int .i64) _ _ _ t103 [.int .i64 t103] from rfl) (Reps.one (show Kd.M (Kd.int .i64) _ _ _ t104 [.int .i64 t104] from rfl) (Reps.one (show Kd.M (Kd.int .i64) _ _ _ t105 [.int .i64 t105] from rfl) (Reps.none _ _))))))
 intro v107 w9 ho10 hb hg_ hnew_
 clear hg_ hnew_
 (first | rw [← Ny106.out] at ho10 | (simp only [Int.reduceToNat] at ho10; rw [← Ny106.out] at ho10))
 have n0_ := Aside0.mk (Kd.R_lower ho10 (below_size (wg_ HB.out GE101.out)))
 have n1_ := Aside0.mk (blk_below (g := gb101) (o := .cells #[.int .i64 a0_0, .int .i64 a0_1, .int .i64 a0_2, .int .i64 a0_3] 115 (0, 0)) (bs_ BK101.out) hb)
 have n2_ := Aside0.mk (below_step (wg_ HB.out GE101.out) hb)
 clear BK101
 clear HB
 have HO108 := n0_
 have BK101 := n1_
 have HB := n2_
 clear n0_ n1_ n2_
 clear hb ho10
 obtain ⟨Ao11, co11, eo11⟩ := Kd.R_slice HO108.out
 (first | subst eo11 | (injection eo11 with f1_ f2_ f3_; have f4_ := f1_.symm; have f5_ := f3_.symm; clear f1_ f2_ f3_; subst f4_; subst f5_))
 refine hK.out _ _ ⟨(blk_cell BK101.out 0).trans rfl, (blk_cell BK101.out 1).trans rfl, (blk_cell BK101.out 2).trans rfl, (blk_cell BK101.out 3).trans rfl⟩ (fun hHeld => ?_)
 clear hK K
 refine norm_ (a' := ?_) ?_ ?_
 rotate_left
 ·show Act.put _ (some 17) _ = _
  simp only [Act.put, List.setIfInBounds_toArray, List.set_cons_zero, List.set_cons_succ, i64_w, i32_w]
  rfl
 refine one_ (i := 15) (N := some 18) #[true, true, true, true, true, true, true, true, true, true, true, true, true, true, true, true, false] rfl rfl (one_of HT_.out (by kernel_rfl)) (by decide) (fun K hK => ?_)
 refine goes_ Tryz.func85 (by kernel_rfl) rfl #[.slice Ao11 y106.length co11] (by rfl) rfl rfl (by (try simp only [List.map_toArray, List.map_cons, List.map_nil]); first | done | rfl | (simp only [List.length_drop, List.length_take]; rfl)) ?_
 with_reducible refine (market_first.calls k _ _ y106 t109 _ ?side1 ?side2 A6.out).mono ?_
 (case side1 => repeat (first | exact (Kd.R_reads' HO108.out).2.2 | (with_reducible refine Kd.C_alloc ?_ _) | (with_reducible refine Kd.C_drewN ?_ _) | (with_reducible refine Kd.C_drew ?_)))
 (case side2 => exact (Kd.R_reads' HO108.out).2.1)
 rintro e w' ⟨rfl, ⟨nd, rfl⟩⟩
 refine ⟨_, rfl, ?_⟩
 refine hK.out _ _ ⟨(blk_cell BK101.out 0).trans rfl, (blk_cell BK101.out 1).trans rfl, (blk_cell BK101.out 2).trans rfl, (blk_cell BK101.out 3).trans rfl⟩ (fun hHeld => ?_)
 clear hK K
 refine norm_ (a' := ?_) ?_ ?_
 rotate_left
 ·show Act.put _ (some 18) _ = _
  simp only [Act.put, List.setIfInBounds_toArray, List.set_cons_zero, List.set_cons_succ, i64_w, i32_w]
  rfl
 refine pv_ 16 2 #[true, true, true, true, true, true, true, true, true, true, true, true, true, true, true, true, true] (any_of HT_.out (by kernel_rfl)) ?_
 refine done_ (done_of HT_.out (by kernel_rfl)) ?_
 try go_wp2
 go_ret
 exact ⟨by first | rfl | (simp [errW_none, errW_some] <;> rfl) | (simp [*, errW_none, errW_some] <;> rfl), by repeat (first | (with_reducible first | exact HB.out | apply below_alloc | apply pw_below_drewN | apply below_drew1 | refine below_set ?_ GE101.out) | exact HB.out)⟩
/-! ### api_Errno_92__market_checkPrice: function 92 -/
def api_Errno_92__market_checkPrice.l0 : Nat → List Int → List Int → Int → Int → Option (List Int)
 | 0, _, _, _, _ => none
 | k + 1, x5, x8, x9, x10 => if x10 < x9 then (if 0 ≤ x10 then (if x10 < (x8.length : Int) then ((market_checkPrice.f (rd x8 x10)).bind fun t102 => (if x5.length < 17592186044416 then (api_Errno_92__market_checkPrice.l0 k (x5 ++ [t102]) x8 x9 (wrap64 (x10 + 1))) else (none))) else (none)) else (none)) else (some x5)
def api_Errno_92__market_checkPrice.f (k : Nat) (l0 : List Int) (a1 : Unit) : Option (List Int) := api_Errno_92__market_checkPrice.l0 k ([] : List Int) l0 (l0.length : Int) 0
set_option maxHeartbeats 8000000 in
set_option maxRecDepth 100000 in
theorem api_Errno_92__market_checkPrice.calls (k : Nat) (A0 : Option Addr) (c0 : Nat) (l0 : List Int) (a1 : Unit) (r : List Int) (w : World) (hr0 : Kd.C (Kd.int .i64) w A0 l0.length l0) (hc0 : l0.length ≤ c0) (h : api_Errno_92__market_checkPrice.f k l0 a1 = some r) :
  Calls Tryz.prog 92 #[.slice A0 l0.length c0, .func (.func 93) #[] #[]] w fun e w' => ∃ v0_ : Value, e = .returned (v0_) ∧ Kd.R (Kd.int .i64) 28 w' w.heap.size (fun _ => True) v0_ r ∧ Below w.heap.size w w' := by
 have HR0 := Aside0.mk hr0
 have HC0 := Aside0.mk hc0
 clear hr0 hc0
 have HB := Aside0.mk (Below.refl w.heap.size w)
 have H : (api_Errno_92__market_checkPrice.l0 k ([] : List Int) l0 (l0.length : Int) 0) = some r := h
 clear h
 have H' := Aside0.mk H
 clear H
 go_enter Tryz.func92, Tryz.ntmps92
 go_wp2
 go_loopg [5, 10] k (fun kq v5 v10 w' => ∃ (x5_1 : List Int) (x10_1 : Int), v10 = .int .i64 x10_1 ∧ Aside0 (api_Errno_92__market_checkPrice.l0 kq x5_1 l0 (l0.length : Int) x10_1 = some r) ∧ Aside0 (kq ≤ k) ∧ Aside0 (Kd.R (Kd.int .i64) 28 w' w.heap.size (fun _ => True) v5 x5_1) ∧ Aside0 (Below w.heap.size w w'))
 case atStart => exact ⟨(([] : List Int)), (0), (by first | rfl | (simp; done) | (simp [*]; done)), H', ⟨Nat.le_refl _⟩, ⟨by first | exact Kd.R_nil _ _ _ _ _ | exact Kd.N_nil _ _ _ _ _ | exact Kd.V_nil _ _ _ _ _ | exact Kd.Q_nil _ _ _ _ _ | exact Kd.S_nil _ _ _ _ _⟩, ⟨by repeat (first | (with_reducible first | exact HB.out | apply below_alloc | apply pw_below_drewN | apply below_drew1) | exact HB.out)⟩⟩
 case round =>
  clear H'
  try clear p2
  obtain ⟨x5_1, x10_1, rfl, HA, HK1, HO_5, HB⟩ := hrel
  cases gk with
  | zero => exact absurd HA.out (by simp [api_Errno_92__market_checkPrice.l0])
  | succ k1 =>
   have H := HA.out
   clear HA
   simp only [api_Errno_92__market_checkPrice.l0] at H
   by_cases c3 : x10_1 < (l0.length : Int)
   ·rw [if_pos c3] at H
    have c3b0 : decide (x10_1 < (l0.length : Int)) = true := decide_eq_true c3
    clear c3
    by_cases c4 : 0 ≤ x10_1
    ·rw [if_pos c4] at H
     have c4b0 : decide (0 ≤ x10_1) = true := decide_eq_true c4
     clear c4
     by_cases c5 : x10_1 < (l0.length : Int)
     ·rw [if_pos c5] at H
      have c5b0 : decide (x10_1 < (l0.length : Int)) = true := decide_eq_true c5
      clear c5
      replace H := Option.bind_eq_some_iff.mp H
      obtain ⟨t102, A60, H⟩ := H
      replace H : (if x5_1.length < 17592186044416 then (api_Errno_92__market_checkPrice.l0 k1 (x5_1 ++ [t102]) l0 (l0.length : Int) (wrap64 (x10_1 + 1))) else (none)) = some r := H
      have A6 := Aside0.mk A60
      clear A60
      by_cases c7 : x5_1.length < 17592186044416
      ·rw [if_pos c7] at H
       have LMc7 := Aside0.mk c7
       clear c7
       obtain ⟨y103, hy103⟩ : ∃ y_ : List Int, y_ = (x5_1 ++ [t102]) := ⟨_, rfl⟩
       replace H : (api_Errno_92__market_checkPrice.l0 k1 y103 l0 (l0.length : Int) (wrap64 (x10_1 + 1))) = some r := by first | (rw [hy103]; with_reducible exact H) | (have H2_ := (Option.bind_some _ _).symm.trans H; rw [hy103]; with_reducible exact H2_) | (have H2_ := (Option.bind_some _ _).symm.trans H; with_reducible exact H2_) | with_reducible exact H | (rw [hy103]; exact H) | exact H
       have Ny103 := Aside0.mk hy103
       clear hy103
       have H' := Aside0.mk H
       clear H
       have p101 : 0 ≤ (x10_1 : Int) := of_decide_eq_true (by first | (with_reducible assumption) | assumption)
       have q101 : x10_1 < (l0.length : Int) := of_decide_eq_true (by first | (with_reducible assumption) | assumption)
       obtain ⟨ad101, e101, hx101_0⟩ := Kd.at_int HR0.out x10_1 p101 q101
       cases e101
       replace hx101_0 := (HB.out.cell (World.block_lt_of_cell? w _ hx101_0)).trans hx101_0
       replace p101 := eq_true p101
       replace q101 := eq_true q101
       go_wp2_with (first | ((with_reducible refine gate_calleeT (t := 15) rfl ?_); refine goesT_ (some 17) rfl rfl Tryz.func93 (by kernel_rfl) rfl #[.int .i64 (rd l0 x10_1)] rfl rfl (by (try simp only [List.map_toArray, List.map_cons, List.map_nil]); first | done | rfl | (simp only [List.length_drop, List.length_take]; rfl)) ?_; (with_reducible refine (market_checkPrice.calls (rd l0 x10_1) t102 _ A6.out).mono ?_); rintro e w' ⟨rfl, ⟨nd, rfl⟩⟩; refine ⟨_, rfl, ?_⟩) | ((with_reducible refine gate_builtin (b := .append) (xs := #[.tmp 14, .tmp 18]) rfl ?_); at_builtin; refine Kd.R_append (Kd.int .i64) (w0 := w) w.heap.size rfl (.tmp 14) (.tmp 18) 158 28 (.int .i64 0) 8 rfl Tryz.underlying158 info28 rfl (by decide) (by omega) u5 x5_1 t102 [.int .i64 t102] (fun _ => True) (fun _ => False) rfl rfl ?aP (fun _ hk => hk.elim) ?aF ?aO ?aB ?aS ?aL ?_; (case aP => exact rfl); (case aB => exact (ws_ HB.out)); (case aF => exact (fun _ _ => trivial)); (case aO => exact (rs_ HO_5.out)); (case aS => exact (below_size (ws_ HB.out))); (case aL => have := LMc7.out; omega); intro v104 w8 ho hb hg hat; rw [← Ny103.out] at ho; have n0_ := Aside0.mk (hb); have n1_ := Aside0.mk (ho); clear HB; clear HO_5; have HB := n0_; have HO105 := n1_; clear n0_ n1_; clear ho hb hg hat))
       go_roundg k1
       case measure => have := HK1.out; omega
       case rel => exact ⟨(y103), (wrap64 (x10_1 + 1)), (by first | rfl | (simp; done) | (simp [*]; done)), H', ⟨by have := HK1.out; omega⟩, ⟨by (with_reducible repeat (first | apply Kd.R_alloc | apply Kd.R_drewN | apply Kd.R_drew)); exact HO105.out⟩, ⟨by repeat (first | (with_reducible first | exact HB.out | apply below_alloc | apply pw_below_drewN | apply below_drew1) | exact HB.out)⟩⟩
      ·rw [if_neg c7] at H
       exact absurd H (by simp)
     ·rw [if_neg c5] at H
      exact absurd H (by simp)
    ·rw [if_neg c4] at H
     exact absurd H (by simp)
   ·rw [if_neg c3] at H
    have c3b0 : decide (x10_1 < (l0.length : Int)) = false := decide_eq_false c3
    clear c3
    obtain rfl := Option.some.inj H
    go_wp2
    go_ret
    exact ⟨_, by first | rfl | (simp [errW_none, errW_some] <;> rfl) | (simp [*, errW_none, errW_some] <;> rfl), by (with_reducible repeat (first | apply Kd.R_alloc | apply Kd.R_drewN | apply Kd.R_drew)); exact HO_5.out, by repeat (first | (with_reducible first | exact HB.out | apply below_alloc | apply pw_below_drewN | apply below_drew1) | exact HB.out)⟩
/-! ### market_listed_int__market_checkPrice: function 124 -/
def market_listed_int__market_checkPrice.f (k : Nat) (l0 : List Int) (a1 : Unit) : Option (Int) := (market_when.f (decide ((l0.length : Int) > 96)) 5).bind fun t101 => ((api_Errno_92__market_checkPrice.f k l0 a1).bind fun t102 => ((market_first.f k t102).bind fun t105 => ((market_first.f k (([t101, t105] : List Int))).bind fun t109 => (some t109))))
set_option maxHeartbeats 8000000 in
set_option maxRecDepth 100000 in
theorem market_listed_int__market_checkPrice.calls (k : Nat) (A0 : Option Addr) (c0 : Nat) (l0 : List Int) (a1 : Unit) (r : Int) (w : World) (hr0 : Kd.C (Kd.int .i64) w A0 l0.length l0) (hc0 : l0.length ≤ c0) (h : market_listed_int__market_checkPrice.f k l0 a1 = some r) :
  Calls Tryz.prog 124 #[.slice A0 l0.length c0, .func (.func 93) #[] #[]] w fun e w' => e = .returned (.int .i64 r) ∧ Below w.heap.size w w' := by
 have HR0 := Aside0.mk hr0
 have HC0 := Aside0.mk hc0
 clear hr0 hc0
 have HB := Aside0.mk (Below.refl w.heap.size w)
 have H : ((market_when.f (decide ((l0.length : Int) > 96)) 5).bind fun t101 => ((api_Errno_92__market_checkPrice.f k l0 a1).bind fun t102 => ((market_first.f k t102).bind fun t105 => ((market_first.f k (([t101, t105] : List Int))).bind fun t109 => (some t109))))) = some r := h
 clear h
 replace H := Option.bind_eq_some_iff.mp H
 obtain ⟨t101, A30, H⟩ := H
 replace H : ((api_Errno_92__market_checkPrice.f k l0 a1).bind fun t102 => ((market_first.f k t102).bind fun t105 => ((market_first.f k (([t101, t105] : List Int))).bind fun t109 => (some t109)))) = some r := H
 have A3 := Aside0.mk A30
 clear A30
 replace H := Option.bind_eq_some_iff.mp H
 obtain ⟨t102, A40, H⟩ := H
 replace H : ((market_first.f k t102).bind fun t105 => ((market_first.f k (([t101, t105] : List Int))).bind fun t109 => (some t109))) = some r := H
 have A4 := Aside0.mk A40
 clear A40
 replace H := Option.bind_eq_some_iff.mp H
 obtain ⟨t105, A50, H⟩ := H
 replace H : ((market_first.f k (([t101, t105] : List Int))).bind fun t109 => (some t109)) = some r := H
 have A5 := Aside0.mk A50
 clear A50
 obtain ⟨y106, hy106⟩ : ∃ y_ : List Int, y_ = (([t101, t105] : List Int)) := ⟨_, rfl⟩
 replace H : ((market_first.f k y106).bind fun t109 => (some t109)) = some r := by first | (rw [hy106]; with_reducible exact H) | (have H2_ := (Option.bind_some _ _).symm.trans H; rw [hy106]; with_reducible exact H2_) | (have H2_ := (Option.bind_some _ _).symm.trans H; with_reducible exact H2_) | with_reducible exact H | (rw [hy106]; exact H) | exact H
 have Ny106 := Aside0.mk hy106
 clear hy106
 replace H := Option.bind_eq_some_iff.mp H
 obtain ⟨t109, A60, H⟩ := H
 replace H : (some t109) = some r := H
 have A6 := Aside0.mk A60
 clear A60
 obtain rfl := Option.some.inj H
 go_enter Tryz.func124, Tryz.ntmps124
 go_wp2_with (first | ((with_reducible refine gate_callee (f := 90) rfl ?_); refine gl_ (some 8) Tryz.func90 #[.bool (decide ((l0.length : Int) > 96)), .int .i64 5] ?_; (with_reducible refine (market_when.calls (decide ((l0.length : Int) > 96)) 5 t101 _ A3.out).mono ?_); rintro e w' ⟨rfl, ⟨nd, rfl⟩⟩; refine ⟨_, rfl, ?_⟩) | ((with_reducible refine gate_callee (f := 92) rfl ?_); refine gl_ (some 11) Tryz.func92 #[.slice A0 l0.length c0, .func (.func 93) #[] #[]] ?_; (with_reducible refine (api_Errno_92__market_checkPrice.calls k _ _ l0 a1 t102 _ ?side1 ?side2 A4.out).mono ?_); (case side1 => exact cs_ HR0.out); (case side2 => exact HC0.out); rintro e w7 ⟨v103, rfl, ho0, hb⟩; refine ⟨_, rfl, ?_⟩; have n0_ := Aside0.mk (Kd.R_lower ho0 (below_size (ws_ HB.out))); have n1_ := Aside0.mk (below_step (ws_ HB.out) hb); clear HB; have HO104 := n0_; have HB := n1_; clear n0_ n1_; (try clear hb); (try clear hb2); (try clear hk); (try clear hi); (try clear ho0); obtain ⟨Ao8, co8, eo8⟩ := Kd.R_slice HO104.out; subst eo8) | ((with_reducible refine gate_callee (f := 85) rfl ?_); refine gl_ (some 12) Tryz.func85 #[.slice Ao8 t102.length co8] ?_; (with_reducible refine (market_first.calls k _ _ t102 t105 _ ?side1 ?side2 A5.out).mono ?_); (case side1 => repeat (first | exact (Kd.R_reads' HO104.out).2.2 | (with_reducible refine Kd.C_alloc ?_ _) | (with_reducible refine Kd.C_drewN ?_ _) | (with_reducible refine Kd.C_drew ?_))); (case side2 => exact (Kd.R_reads' HO104.out).2.1); rintro e w' ⟨rfl, ⟨nd, rfl⟩⟩; refine ⟨_, rfl, ?_⟩) | ((with_reducible refine gate_dst (N := 13) rfl ?_); refine Kd.R_lit (Kd.int .i64) _ 28 ?hg (N := 13) ?hd (xs := ([t101, t105] : List Int)) (inner := [.int .i64 t101, .int .i64 t105]) (ok := fun _ => True) (okp := fun _ => True) ?hr ?hp (fun _ hk => hk) trivial (Below.refl _ _) (Nat.le_refl _) (by simp) ?_; (case hd => rfl); (case hg => rfl); (case hr => first | (go_simp; done) | (go_simp; rfl)); (case hp => exact (Reps.one (show Kd.M (Kd.int .i64) _ _ _ t101 [.int .i64 t101] from rfl) (Reps.one (show Kd.M (Kd.int .i64) _ _ _ t105 [.int .i64 t105] from rfl) (Reps.none _ _)))); intro v107 w9 ho10 hb hg_ hnew_; clear hg_ hnew_; (first | rw [← Ny106.out] at ho10 | (simp only [Int.reduceToNat] at ho10; rw [← Ny106.out] at ho10)); have n0_ := Aside0.mk (Kd.R_elder' (rs_ HO104.out) (Kd.R_base ho10) hb); have n1_ := Aside0.mk (Kd.R_lower (Kd.R_new' ho10 (Kd.R_lt (rs_ HO104.out))) (below_size (ws_ HB.out))); have n2_ := Aside0.mk (below_step (ws_ HB.out) hb); clear HO104; clear HB; have HO104 := n0_; have HO108 := n1_; have HB := n2_; clear n0_ n1_ n2_; clear hb ho10; obtain ⟨Ao11, co11, eo11⟩ := Kd.R_slice HO108.out; subst eo11) | ((with_reducible refine gate_callee (f := 85) rfl ?_); refine gl_ (some 14) Tryz.func85 #[.slice Ao11 y106.length co11] ?_; (with_reducible refine (market_first.calls k _ _ y106 t109 _ ?side1 ?side2 A6.out).mono ?_); (case side1 => repeat (first | exact (Kd.R_reads' HO108.out).2.2 | (with_reducible refine Kd.C_alloc ?_ _) | (with_reducible refine Kd.C_drewN ?_ _) | (with_reducible refine Kd.C_drew ?_))); (case side2 => exact (Kd.R_reads' HO108.out).2.1); rintro e w' ⟨rfl, ⟨nd, rfl⟩⟩; refine ⟨_, rfl, ?_⟩))
 go_ret
 exact ⟨by first | rfl | (simp [errW_none, errW_some] <;> rfl) | (simp [*, errW_none, errW_some] <;> rfl), by repeat (first | (with_reducible first | exact HB.out | apply below_alloc | apply pw_below_drewN | apply below_drew1) | exact HB.out)⟩
end Go.Proofs.YtfdlhbdcejlopaaGreatDoor.B
namespace Go.Proofs.YtfdlhbdcejlopaaGreatDoor.B
open Go.RowKit Go.WideMaps Go.Proofs.YtfdlhbdcejlopaaGreatDoorW.PrintWords Go.Proofs.YtfdlhbdcejlopaaGreatDoorW.PrintLast Go.Proofs.YtfdlhbdcejlopaaGreatDoorW.PrintMore
attribute [local go_sem] max2_int min2_int max_two min_two i64_w
set_option linter.unusedVariables false
set_option linter.unusedSimpArgs false
def market_Schedule.f (k : Nat) (a0_0 a0_1 a0_2 a0_3 : Int) (l1 : List Int) : Option (List Int × Int × Int) :=
 (market_CheckStore.f k a0_0 a0_1 a0_2 a0_3).bind fun t1 => (market_listed_int__market_checkPrice.f k l1 ()).bind fun t2 => (market_first.f k ([t1, t2] : List Int)).bind fun t3 =>
  if t3 = 0 then (if l1.length ≤ 96 ∧ 1 ≤ a0_0 ∧ a0_0 ≤ 64 ∧ 1 ≤ a0_1 ∧ a0_1 ≤ 64 ∧ 0 ≤ a0_2 ∧ a0_2 ≤ a0_0 then some (planK a0_0 a0_1 a0_3 l1 a0_2, valK a0_0 a0_1 a0_3 l1 a0_2, 0) else none) else some (([] : List Int), 0, t3)
theorem C_lit {w : World} {g T : Nat} {xs : List Int} (h : w.heap[g]? = some (.cells (xs.map (Value.int .i64)).toArray T (0, 0))) (hm : xs.length ≤ 9223372036854775807) : Kd.C (Kd.int .i64) w (some ⟨g, 0, none⟩) xs.length xs := by
 refine Kd.C_of_reads (d := (0 : Int)) ⟨rfl, hm, fun _ => ⟨_, rfl, fun j hj => ?_⟩⟩
 have := blk_cell h j
 have e : (⟨g, 0, none⟩ : Addr).add j = ⟨g, j, none⟩ := by
  unfold Addr.add
  split
  ·rename_i h0
   rw [show j = 0 from by simpa using h0]
  ·simp
 rw [e, this]
 simp [hj]
theorem scan_at (g : Int → Int) (lo : Int) : ∀ k, 0 < k → ∃ j : Nat, j < k ∧ (scan g lo k).1 = lo + j
 | 0, h => absurd h (Nat.lt_irrefl 0)
 | k + 1, _ => by
  rw [scan_step g lo k _ rfl]
  split
  ·exact ⟨k, by omega, rfl⟩
  ·rename_i hc
   rcases Nat.eq_zero_or_pos k with rfl | hk
   ·simp [scan] at hc
   ·obtain ⟨j, h1, h2⟩ := scan_at g lo k hk
    exact ⟨j, by omega, h2⟩
theorem nextAt_in (cap pow fee : Int) (ps : List Int) (q : Nat) (b : Int) (hp : 1 ≤ pow) (h0 : 0 ≤ b) (hb : b ≤ cap) : 0 ≤ (nextAt cap pow fee ps q b).1 ∧ (nextAt cap pow fee ps q b).1 ≤ cap := by
 have e1 : 0 ≤ lowK pow b := by unfold lowK mx; split <;> omega
 have e2 : lowK pow b ≤ b := by unfold lowK mx; split <;> omega
 have e3 : b ≤ mn cap (b + pow) := by unfold mn; split <;> omega
 have e4 : mn cap (b + pow) ≤ cap := by unfold mn; split <;> omega
 have e5 : 0 < cntK cap pow b := by unfold cntK; omega
 obtain ⟨j, h1, h2⟩ := scan_at (fun a => wrap64 (earnW fee (ps.getD q 0) b a + valK cap pow fee (ps.drop (q + 1)) a)) (lowK pow b) _ e5
 have e6 : (nextAt cap pow fee ps q b).1 = lowK pow b + j := h2
 rw [e6]
 unfold cntK at h1
 omega
theorem planK_drop (cap pow fee : Int) (ps : List Int) (q : Nat) (b : Int) (h : q < ps.length) : planK cap pow fee (ps.drop q) b = (nextAt cap pow fee ps q b).1 :: planK cap pow fee (ps.drop (q + 1)) (nextAt cap pow fee ps q b).1 := by
 rw [List.drop_eq_getElem_cons h]
 unfold nextAt
 rw [planK, List.getD_eq_getElem?_getD, List.getElem?_eq_getElem h]
 rfl
theorem memo_nil (cap pow fee : Int) (ps : List Int) : Memo cap pow fee ps (.map []) := fun _ _ _ _ _ h => by cases h
theorem drawn_below {w w' : World} (h : Drawn0 w w') : Below w.heap.size w w' := by
 obtain ⟨n, rfl⟩ := h.out
 exact pw_below_drewN (Below.refl _ _) n
set_option maxRecDepth 100000 in
set_option maxHeartbeats 1000000 in
theorem market_Schedule.calls (k : Nat) (a0_0 a0_1 a0_2 a0_3 : Int) (A1 : Option Addr) (c1 : Nat) (l1 : List Int) (r1 : List Int) (r2 r3 : Int) (w : World) (hr1 : Kd.C (Kd.int .i64) w A1 l1.length l1) (hc1 : l1.length ≤ c1) (h : market_Schedule.f k a0_0 a0_1 a0_2 a0_3 l1 = some (r1, r2, r3)) :
  Calls Tryz.prog 63 #[.agg #[.int .i64 a0_0, .int .i64 a0_1, .int .i64 a0_2, .int .i64 a0_3], .slice A1 l1.length c1] w fun e w' => ∃ v0_ : Value, e = .returned (.tuple #[v0_, .int .i64 r2, .int .i64 r3]) ∧ Kd.R (Kd.int .i64) 3 w' w.heap.size (fun _ => True) v0_ r1 ∧ Below w.heap.size w w' := by
 unfold market_Schedule.f at h
 obtain ⟨t1, h1, h⟩ := Option.bind_eq_some_iff.mp h
 obtain ⟨t2, h2, h⟩ := Option.bind_eq_some_iff.mp h
 obtain ⟨t3, h3, h⟩ := Option.bind_eq_some_iff.mp h
 have H1 := Aside0.mk h1
 have H2 := Aside0.mk h2
 have H3 := Aside0.mk h3
 have H := Aside0.mk h
 have HR := Aside0.mk hr1
 have HC := Aside0.mk hc1
 clear h1 h2 h3 h hr1 hc1
 have hu115 := Tryz.underlying115
 go_enter Tryz.func63, Tryz.ntmps63
 go_wp2_with fail
 refine (market_CheckStore.calls k a0_0 a0_1 a0_2 a0_3 t1 _ H1.out).mono ?_
 rintro e w1 ⟨rfl, hb⟩
 have BK := Aside0.mk (blk_below (blk_new w _) hb)
 have HB := Aside0.mk ((below_alloc (Below.refl _ _) (.cells #[.int .i64 a0_0, .int .i64 a0_1, .int .i64 a0_2, .int .i64 a0_3] 115)).trans (hb.mono (by simp)))
 clear hb
 go_wp2_with fail
 refine (market_listed_int__market_checkPrice.calls k A1 c1 l1 () t2 _ (Kd.C_below HR.out HB.out) HC.out H2.out).mono ?_
 rintro e w2 ⟨rfl, hb⟩
 have BK2 := Aside0.mk (blk_below BK.out hb)
 have HB2 := Aside0.mk (below_step HB.out hb)
 clear hb BK HB
 go_wp2_with fail
 refine (market_first.calls k (some ⟨w2.heap.size, 0, none⟩) 2 ([t1, t2] : List Int) t3 _ (C_lit (blk_new w2 _) (by simp)) (by simp) H3.out).mono ?_
 rintro e w3 ⟨rfl, hd⟩
 have hb := drawn_below hd
 clear hd
 have BK3 := Aside0.mk (blk_below (blk_alloc BK2.out _) hb)
 have HB3 := Aside0.mk (below_step (below_alloc HB2.out _) hb)
 clear hb BK2 HB2
 by_cases c3 : t3 = 0
 ·have b0 : (t3 == 0) = true := beq_iff_eq.mpr c3
  have b1 : (t3 != 0) = false := bne_eq_false_iff_eq.mpr c3
  have hh := H.out
  rw [if_pos c3] at hh
  split at hh
  case isFalse => cases hh
  rename_i hgd
  cases hh
  clear c3 H
  obtain ⟨g1, g2, g3, g4, g5, g6, g7⟩ := hgd
  have hc0 : w3.cell? ⟨w.heap.size, 0, none⟩ = some (.int .i64 a0_0) := (blk_cell BK3.out 0).trans rfl
  have hc1 : w3.cell? ⟨w.heap.size, 1, none⟩ = some (.int .i64 a0_1) := (blk_cell BK3.out 1).trans rfl
  have hc2 : w3.cell? ⟨w.heap.size, 2, none⟩ = some (.int .i64 a0_2) := (blk_cell BK3.out 2).trans rfl
  have hc3 : w3.cell? ⟨w.heap.size, 3, none⟩ = some (.int .i64 a0_3) := (blk_cell BK3.out 3).trans rfl
  have hmm := @run_makeMap Tryz.prog
  have hle := blk_lt BK3.out
  go_wp2
  have hks : KS w w.heap.size (w3.heap.size + 1) w3.heap.size a0_0 a0_1 a0_2 a0_3 A1 c1 l1 (.map []) ((w3.alloc (.map #[] 0)).alloc (.cells #[.int .i64 a0_0, .int .i64 a0_1, .int .i64 a0_2, .int .i64 a0_3, .slice A1 l1.length c1, .map (some w3.heap.size)] 189)) :=
   ⟨below_alloc (below_alloc HB3.out _) _, by have := blk_new (w3.alloc (.map #[] 0)) (.cells #[.int .i64 a0_0, .int .i64 a0_1, .int .i64 a0_2, .int .i64 a0_3, .slice A1 l1.length c1, .map (some w3.heap.size)] 189); simpa using this, ((World.ownsMap_made w3 _ _ _).alloc _).mono (Nat.zero_le _), memo_nil _ _ _ _⟩
  have HKS := Aside0.mk hks
  have HBX := Aside0.mk (blk_alloc (blk_alloc BK3.out (.map #[] 0)) (.cells #[.int .i64 a0_0, .int .i64 a0_1, .int .i64 a0_2, .int .i64 a0_3, .slice A1 l1.length c1, .map (some w3.heap.size)] 189))
  have HN := Aside0.mk (keep_next (g := w3.heap.size + 1) (beg := a0_2) (fee := a0_3) (Nat.le_of_lt hle) HC.out g1 g3 g4 g5 HR.out)
  have HF := Aside0.mk (keep_from (g := w3.heap.size + 1) (beg := a0_2) (fee := a0_3) (Nat.le_of_lt hle) HC.out g1 g3 g4 g5 HR.out 0 (Nat.zero_le _))
  have HG6 : Aside0 (0 ≤ a0_2 ∧ a0_2 ≤ a0_0) := ⟨g6, g7⟩
  have HLE := Aside0.mk hle
  clear hks HB3 BK3 hc0 hc1 hc2 hc3 g6 g7 hle H1 H2 H3
  go_loopw [9, 10, 30] (fun vo vl vi wr => ∃ (q : Nat) (b : Int) (pre : List Int) (D : DataW Unit), q ≤ l1.length ∧ vi = .int .i64 q ∧ vl = .int .i64 b ∧ Aside0 (0 ≤ b ∧ b ≤ a0_0) ∧ Aside0 (pre.length = q) ∧ Aside0 (pre ++ planK a0_0 a0_1 a0_3 (l1.drop q) b = planK a0_0 a0_1 a0_3 l1 a0_2)
    ∧ Aside0 (Kd.R (Kd.int .i64) 3 wr w.heap.size (fun k => k ≠ w3.heap.size + 1 ∧ k ≠ w3.heap.size ∧ k ≠ w.heap.size) vo pre) ∧ Aside0 (KS w w.heap.size (w3.heap.size + 1) w3.heap.size a0_0 a0_1 a0_2 a0_3 A1 c1 l1 D wr) ∧ Aside0 (wr.heap[w.heap.size]? = some (.cells #[.int .i64 a0_0, .int .i64 a0_1, .int .i64 a0_2, .int .i64 a0_3] 115 (0, 0)))) (fun _ _ vi _ => l1.length - (intOf vi).toNat)
  case atStart => exact ⟨0, a0_2, [], .map [], by omega, rfl, rfl, HG6, ⟨rfl⟩, ⟨by simp⟩, ⟨Kd.R_nil _ _ _ _ _⟩, HKS, HBX⟩
  case round =>
   obtain ⟨q, b, pre, D, hq, rfl, rfl, hb, hl, hpl, ho, hk, hx⟩ := hrel
   by_cases hlt : q < l1.length
   ·have HP := Aside0.mk (planK_drop a0_0 a0_1 a0_3 l1 q b hlt)
    have HI := Aside0.mk (nextAt_in a0_0 a0_1 a0_3 l1 q b g4 hb.out.1 hb.out.2)
    have HQ : Aside0 (q ≤ 96) := ⟨by omega⟩
    go_wp2_with fail
    refine (HN.out q hlt b D wr hb.out.1 hb.out.2 hk.out).mono ?_
    rintro e w5 ⟨rfl, hp⟩
    obtain ⟨hg5, D5, hk5, hd5⟩ := hp
    obtain ⟨a, ha⟩ : ∃ a, (nextAt a0_0 a0_1 a0_3 l1 q b).1 = a := ⟨_, rfl⟩
    rw [ha] at HP HI ⊢
    have ho5 := Aside0.mk (Kd.R_grown ho.out hg5 (fun k hk e => hk.2.1 (Option.some.inj e)))
    have hx5 := Aside0.mk (blk_grown hx.out hg5 (fun e => absurd (Option.some.inj e) (Nat.ne_of_lt HLE.out)))
    have HK5 := Aside0.mk hk5
    have hpl5 : Aside0 ((pre ++ [a]) ++ planK a0_0 a0_1 a0_3 (l1.drop (q + 1)) a = planK a0_0 a0_1 a0_3 l1 a0_2) := ⟨by rw [← hpl.out, HP.out]; simp⟩
    have hl5 : Aside0 ((pre ++ [a]).length = q + 1) := ⟨by simp [hl.out]⟩
    have hw1 : wrap64 ((q : Int) + 1) = (q : Int) + 1 := w64 _ (by have := HQ.out; omega)
    clear hk5 hd5 hg5 ha hk ho hx hpl HP
    go_wp2_with ((with_reducible refine gate_builtin (b := .append) (xs := #[.tmp 40, .tmp 42]) rfl ?_); at_builtin; refine Kd.R_append (Kd.int .i64) (w0 := w) w.heap.size rfl (.tmp 40) (.tmp 42) 52 3 (.int .i64 0) 8 rfl Tryz.underlying52 info3 rfl (by decide) (by omega) u9 pre a [.int .i64 a] (fun k => k ≠ w3.heap.size + 1 ∧ k ≠ w3.heap.size ∧ k ≠ w.heap.size) (fun _ => False) rfl rfl rfl (fun _ hk => hk.elim) ?aF ho5.out HK5.out.below HK5.out.below.size ?aL ?_; (case aL => have h1 := hl5.out; have h2 := HQ.out; simp at h1; omega); (case aF => intro k hk; have h1 := blk_lt HK5.out.blk; have h2 := HLE.out; omega); intro v1 w6 ho6 hb6 hg6 hat6)
    have hne : ∀ k, (k = w3.heap.size + 1 ∨ k = w3.heap.size ∨ k = w.heap.size) → some k ≠ u9.ownBlock := fun k hk e => by
     have := ho5.out.1 k e.symm
     omega
    have HK6 := Aside0.mk (HK5.out.grown hg6 HK5.out.below.size (fun k e => Kd.R_base ho5.out k e) (hne _ (.inl rfl)) (hne _ (.inr (.inl rfl))))
    have HX6 := Aside0.mk (blk_grown hx5.out hg6 (hne _ (.inr (.inr rfl))))
    have HO6 := Aside0.mk ho6
    clear ho6 hb6 hg6 hat6 hne
    go_wp2
    go_roundw
    case rel => exact ⟨q + 1, a, pre ++ [a], D5, by omega, by go_num, rfl, HI, hl5, hpl5, HO6, HK6, HX6⟩
    case measure =>
     simp [intOf]
     omega
   ·have hpe : Aside0 (pre = planK a0_0 a0_1 a0_3 l1 a0_2) := ⟨by
     have h1 := hpl.out
     rw [List.drop_of_length_le (by omega)] at h1
     simpa [planK] using h1⟩
    have hc2 : wr.cell? ⟨w.heap.size, 2, none⟩ = some (.int .i64 a0_2) := (blk_cell hx.out 2).trans rfl
    go_wp2_with fail
    refine (HF.out a0_2 D wr HG6.out.1 HG6.out.2 hk.out).mono ?_
    rintro e w7 ⟨rfl, hp⟩
    obtain ⟨hg7, D7, hk7, hd7⟩ := hp
    have HO7 := Aside0.mk (Kd.R_mono (Kd.R_grown ho.out hg7 (fun k hk e => hk.2.1 (Option.some.inj e))) (ok' := fun _ => True) (fun _ _ => trivial))
    have HB7 := Aside0.mk hk7.below
    rw [hpe.out] at HO7
    clear hg7 hk7 hd7 hk ho hx hpl hpe
    go_wp2
    go_ret3
    exact ⟨_, rfl, HO7.out, HB7.out⟩
 ·have b0 : (t3 == 0) = false := beq_eq_false_iff_ne.mpr c3
  have b1 : (t3 != 0) = true := bne_iff_ne.mpr c3
  have hh := H.out
  rw [if_neg c3] at hh
  cases hh
  clear c3 H
  go_wp2
  go_ret3
  exact ⟨_, rfl, Kd.R_nil _ _ _ _ _, HB3.out⟩
end Go.Proofs.YtfdlhbdcejlopaaGreatDoor.B
namespace Go.Proofs.YtfdlhbdcejlopaaGreatDoor.B
open Go.RowKit Go.Proofs.YtfdlhbdcejlopaaGreatDoorW.PrintWords Go.Proofs.YtfdlhbdcejlopaaGreatDoorW.PrintLast Go.Proofs.YtfdlhbdcejlopaaGreatDoorW.PrintMore
attribute [local go_sem] max2_int min2_int max_two min_two
set_option linter.unusedVariables false
set_option linter.unusedSimpArgs false
theorem eqA43 (d : Nat) (w : World) (x0 y0 : Int) (x1 y1 : Int) :
  (Op.equalIn (d + 2) 43 (.agg #[.int .i64 x0, .int .i64 x1]) (.agg #[.int .i64 y0, .int .i64 y1])).run Tryz.prog w = .ok (x0 == y0 && (x1 == y1)) w := by
 refine eqA_of Tryz.underlying43 (by kernel_rfl) ?_
 refine eqf_cons (by rfl) (by go_simp; rfl) (by go_simp; rfl) (by go_simp) ?_
 exact eqf_last (by rfl) (by go_simp; rfl) (by go_simp; rfl) (by go_simp)
end Go.Proofs.YtfdlhbdcejlopaaGreatDoor.B
namespace Go.Proofs.YtfdlhbdcejlopaaGreatDoor.B
open Go.RowKit Go.Proofs.YtfdlhbdcejlopaaGreatDoorW.PrintWords Go.Proofs.YtfdlhbdcejlopaaGreatDoorW.PrintLast Go.Proofs.YtfdlhbdcejlopaaGreatDoorW.PrintMore
attribute [local go_sem] max2_int min2_int max_two min_two
set_option linter.unusedVariables false
set_option linter.unusedSimpArgs false
attribute [local go_sem high] eqA43 /-! ### market_checkRatio: function 116 -/
def market_checkRatio.f (k : Nat) (a0_0 : Int) (a0_1 : Int) : Option (Int) := (market_within.f a0_0 (-999999999) 999999999).bind fun t102 => ((market_within.f a0_1 1 999999999).bind fun t103 => ((market_first.f k (([t102, t103] : List Int))).bind fun t107 => (if t107 = 0 then ((market_ratio.f k a0_0 a0_1).bind fun bt108 => ((market_when.f (!(a0_0 == bt108.1) || (!(a0_1 == bt108.2))) 1).bind fun t110 => (some t110))) else (some t107))))
def market_checkRatio.T1 : Bool × List (List Nat × List Nat) := (true, [([], []), ([0], [0]), ([1], [1]), ([], []), ([3], [3]), ([4, 2], [4]), ([2, 5], [2, 5]), ([6, 5], [6]), ([7, 7, 0, 1, 2, 3, 4, 5, 6, 7], [7])])
def market_checkRatio.B1 : List Nat := [0, 1, 3, 0, 8, 31, 63, 127, 255]
theorem market_checkRatio.tab1 : rtab .any (opsOf Tryz.f116 1) = market_checkRatio.T1 := by kernel_rfl
theorem market_checkRatio.bits1 : waitsOk market_checkRatio.T1.2 market_checkRatio.B1 = true := by kernel_rfl
def market_checkRatio.T4 : Bool × List (List Nat × List Nat) := (true, [([], []), ([], []), ([1], [1]), ([], []), ([3], [3]), ([2, 4], [2, 4]), ([0, 5], [0, 5]), ([6, 5], [6]), ([7, 7, 0, 1, 2, 3, 4, 5, 6, 7], [7])])
def market_checkRatio.B4 : List Nat := [0, 0, 2, 0, 8, 30, 63, 127, 255]
theorem market_checkRatio.tab4 : rtab .any (opsOf Tryz.f116 4) = market_checkRatio.T4 := by kernel_rfl
theorem market_checkRatio.bits4 : waitsOk market_checkRatio.T4.2 market_checkRatio.B4 = true := by kernel_rfl
set_option maxHeartbeats 8000000 in
set_option maxRecDepth 100000 in
theorem market_checkRatio.calls (k : Nat) (a0_0 : Int) (a0_1 : Int) (r : Int) (w : World) (h : market_checkRatio.f k a0_0 a0_1 = some r) :
  Calls Tryz.prog 116 #[.agg #[.int .i64 a0_0, .int .i64 a0_1]] w fun e w' => e = .returned (.int .i64 r) ∧ Below w.heap.size w w' := by
 have hu43 := Tryz.underlying43
 have HB := Aside0.mk (Below.refl w.heap.size w)
 have H : ((market_within.f a0_0 (-999999999) 999999999).bind fun t102 => ((market_within.f a0_1 1 999999999).bind fun t103 => ((market_first.f k (([t102, t103] : List Int))).bind fun t107 => (if t107 = 0 then ((market_ratio.f k a0_0 a0_1).bind fun bt108 => ((market_when.f (!(a0_0 == bt108.1) || (!(a0_1 == bt108.2))) 1).bind fun t110 => (some t110))) else (some t107))))) = some r := h
 clear h
 replace H := Option.bind_eq_some_iff.mp H
 obtain ⟨t102, A20, H⟩ := H
 replace H : ((market_within.f a0_1 1 999999999).bind fun t103 => ((market_first.f k (([t102, t103] : List Int))).bind fun t107 => (if t107 = 0 then ((market_ratio.f k a0_0 a0_1).bind fun bt108 => ((market_when.f (!(a0_0 == bt108.1) || (!(a0_1 == bt108.2))) 1).bind fun t110 => (some t110))) else (some t107)))) = some r := H
 have A2 := Aside0.mk A20
 clear A20
 replace H := Option.bind_eq_some_iff.mp H
 obtain ⟨t103, A30, H⟩ := H
 replace H : ((market_first.f k (([t102, t103] : List Int))).bind fun t107 => (if t107 = 0 then ((market_ratio.f k a0_0 a0_1).bind fun bt108 => ((market_when.f (!(a0_0 == bt108.1) || (!(a0_1 == bt108.2))) 1).bind fun t110 => (some t110))) else (some t107))) = some r := H
 have A3 := Aside0.mk A30
 clear A30
 obtain ⟨y104, hy104⟩ : ∃ y_ : List Int, y_ = (([t102, t103] : List Int)) := ⟨_, rfl⟩
 replace H : ((market_first.f k y104).bind fun t107 => (if t107 = 0 then ((market_ratio.f k a0_0 a0_1).bind fun bt108 => ((market_when.f (!(a0_0 == bt108.1) || (!(a0_1 == bt108.2))) 1).bind fun t110 => (some t110))) else (some t107))) = some r := by first | (rw [hy104]; with_reducible exact H) | (have H2_ := (Option.bind_some _ _).symm.trans H; rw [hy104]; with_reducible exact H2_) | (have H2_ := (Option.bind_some _ _).symm.trans H; with_reducible exact H2_) | with_reducible exact H | (rw [hy104]; exact H) | exact H
 have Ny104 := Aside0.mk hy104
 clear hy104
 replace H := Option.bind_eq_some_iff.mp H
 obtain ⟨t107, A40, H⟩ := H
 replace H : (if t107 = 0 then ((market_ratio.f k a0_0 a0_1).bind fun bt108 => ((market_when.f (!(a0_0 == bt108.1) || (!(a0_1 == bt108.2))) 1).bind fun t110 => (some t110))) else (some t107)) = some r := H
 have A4 := Aside0.mk A40
 clear A40
 by_cases c5 : t107 = 0
 ·rw [if_pos c5] at H
  have c5b0 : (t107 == 0) = true := beq_iff_eq.mpr c5
  have c5b1 : (t107 != 0) = false := bne_eq_false_iff_eq.mpr c5
  clear c5
  replace H := Option.bind_eq_some_iff.mp H
  obtain ⟨⟨t108, t109⟩, A60, H⟩ := H
  replace H : ((market_when.f (!(a0_0 == t108) || (!(a0_1 == t109))) 1).bind fun t110 => (some t110)) = some r := H
  have A6 := Aside0.mk A60
  clear A60
  replace H := Option.bind_eq_some_iff.mp H
  obtain ⟨t110, A70, H⟩ := H
  replace H : (some t110) = some r := H
  have A7 := Aside0.mk A70
  clear A70
  obtain rfl := Option.some.inj H
  go_enter Tryz.func116, Tryz.ntmps116
  try go_wp2_with (first | ((with_reducible refine gate_dst (N := 1) rfl ?_); refine box_event ?hg (N := 1) ?hd (cs := #[.int .i64 a0_0, .int .i64 a0_1]) (t := 43) ?hr ?_; (case hd => rfl); (case hg => rfl); (case hr => first | (go_simp; done) | (go_simp; rfl)); intro gb101 hg w8 hbox hb; have n0_ := Aside0.mk (below_step (ws_ HB.out) hb); have n1_ := Aside0.mk (hbox); have n2_ := Aside0.mk ((by rw [hg]; exact (below_size (ws_ HB.out)) : w.heap.size ≤ gb101)); have n3_ := Aside0.mk ((by rw [hg]; exact (below_size (ws_ HB.out)) : w.heap.size ≤ gb101)); clear HB; have HB := n0_; have BK101 := n1_; have GW101 := n2_; have GE101 := n3_; clear n0_ n1_ n2_ n3_; clear hb hbox hg))
  have n0_ := Aside0.mk (blk_drew BK101.out)
  have n1_ := Aside0.mk (below_drew1 HB.out)
  clear BK101
  clear HB
  have BK101 := n0_
  have HB := n1_
  clear n0_ n1_
  refine start_ (n := 9) (S := fun w' => w'.cell? ⟨gb101, 0, none⟩ = some (.int .i64 a0_0) ∧ w'.cell? ⟨gb101, 1, none⟩ = some (.int .i64 a0_1)) (ds := []) #[false, false, false, false, false, false, false, false, false] (by kernel_rfl) rfl rfl ⟨(blk_cell BK101.out 0).trans rfl, (blk_cell BK101.out 1).trans rfl⟩ (fun hHeld => ?_); refine with_tabW market_checkRatio.tab1 market_checkRatio.bits1 (fun HT_ HW_ => ?_)
  generalize w8.drew = w9 at BK101 HB hHeld ⊢
  refine pv_ 0 4 #[true, false, false, false, false, false, false, false, false] (any_of HT_.out (by kernel_rfl)) ?_
  refine pv_ 3 7 #[true, false, false, true, false, false, false, false, false] (any_of HT_.out (by kernel_rfl)) ?_
  refine take_ (i := 1) (N := some 5) (v := ?_) (a' := ?_) #[true, true, false, true, false, false, false, false, false] rfl rfl (take_ofW HT_.out HW_.out (by kernel_rfl)) (fun _ _ _ h => h) (Or.inl ⟨by rfl, ?_⟩) hHeld ?_ ?_
  rotate_left
  ·rintro w' ⟨s0, s1⟩
   go_simp
   with_reducible rfl
  rotate_left
  ·simp only [Act.put, List.setIfInBounds_toArray, List.set_cons_zero, List.set_cons_succ, i64_w, i32_w]
   rfl
  refine take_ (i := 4) (N := some 8) (v := ?_) (a' := ?_) #[true, true, false, true, true, false, false, false, false] rfl rfl (take_ofW HT_.out HW_.out (by kernel_rfl)) (fun _ _ _ h => h) (Or.inl ⟨by rfl, ?_⟩) hHeld ?_ ?_
  rotate_left
  ·rintro w' ⟨s0, s1⟩
   go_simp
   with_reducible rfl
  rotate_left
  ·simp only [Act.put, List.setIfInBounds_toArray, List.set_cons_zero, List.set_cons_succ, i64_w, i32_w]
   rfl
  refine one_ (i := 2) (N := some 6) #[true, true, true, true, true, false, false, false, false] rfl rfl (one_of HT_.out (by kernel_rfl)) (by decide) (fun K hK => ?_)
  refine goes_ Tryz.func91 (by kernel_rfl) rfl #[.int .i64 a0_0, .int .i64 (-999999999), .int .i64 999999999] (by rfl) rfl rfl (by (try simp only [List.map_toArray, List.map_cons, List.map_nil]); first | done | rfl | (simp only [List.length_drop, List.length_take]; rfl)) ?_
  with_reducible refine (market_within.calls a0_0 (-999999999) 999999999 t102 _ A2.out).mono ?_
  rintro e w' ⟨rfl, ⟨nd, rfl⟩⟩
  refine ⟨_, rfl, ?_⟩
  refine hK.out _ _ ⟨(blk_cell BK101.out 0).trans rfl, (blk_cell BK101.out 1).trans rfl⟩ (fun hHeld => ?_)
  clear hK K
  refine norm_ (a' := ?_) ?_ ?_
  rotate_left
  ·show Act.put _ (some 6) _ = _
   simp only [Act.put, List.setIfInBounds_toArray, List.set_cons_zero, List.set_cons_succ, i64_w, i32_w]
   rfl
  refine one_ (i := 5) (N := some 9) #[true, true, true, true, true, true, false, false, false] rfl rfl (one_of HT_.out (by kernel_rfl)) (by decide) (fun K hK => ?_)
  refine goes_ Tryz.func91 (by kernel_rfl) rfl #[.int .i64 a0_1, .int .i64 1, .int .i64 999999999] (by rfl) rfl rfl (by (try simp only [List.map_toArray, List.map_cons, List.map_nil]); first | done | rfl | (simp only [List.length_drop, List.length_take]; rfl)) ?_
  with_reducible refine (market_within.calls a0_1 1 999999999 t103 _ A3.out).mono ?_
  rintro e w' ⟨rfl, ⟨nd, rfl⟩⟩
  refine ⟨_, rfl, ?_⟩
  refine hK.out _ _ ⟨(blk_cell BK101.out 0).trans rfl, (blk_cell BK101.out 1).trans rfl⟩ (fun hHeld => ?_)
  clear hK K
  refine norm_ (a' := ?_) ?_ ?_
  rotate_left
  ·show Act.put _ (some 9) _ = _
   simp only [Act.put, List.setIfInBounds_toArray, List.set_cons_zero, List.set_cons_succ, i64_w, i32_w]
   rfl
  refine one_ (i := 6) (N := some 10) #[true, true, true, true, true, true, true, false, false] rfl rfl (one_of HT_.out (by kernel_rfl)) (by decide) (fun K hK => ?_)
  refine Kd.R_lit_step (Kd.int .i64) _ 28 ?hg (N := 10) ?hd (xs := ([t102, t103] : List Int)) (inner := [.int .i64 t102, .int .i64 t103]) (ok := fun _ => True) (okp := fun _ => True) ?hr ?hp (fun _ hk => hk) trivial (Below.refl _ _) (Nat.le_refl _) (by simp) ?_; (case hd => rfl); (case hg => rfl); (case hr => first | (go_simp; done) | (go_simp; rfl)); (case hp => exact (Reps.one (show Kd.M (Kd.int .i64) _ _ _ t102 [.int .i64 t102] from rfl) (Reps.one (show Kd.M (Kd.int .i64) _ _ _ t103 [.int .i64 t103] from rfl) (Reps.none _ _))))
  intro v105 w10 ho11 hb hg_ hnew_
  clear hg_ hnew_
  (first | rw [← Ny104.out] at ho11 | (simp only [Int.reduceToNat] at ho11; rw [← Ny104.out] at ho11))
  have n0_ := Aside0.mk (Kd.R_lower ho11 (below_size (wg_ HB.out GE101.out)))
  have n1_ := Aside0.mk (blk_below (g := gb101) (o := .cells #[.int .i64 a0_0, .int .i64 a0_1] 43 (0, 0)) (bs_ BK101.out) hb)
  have n2_ := Aside0.mk (below_step (wg_ HB.out GE101.out) hb)
  clear BK101
  clear HB
  have HO106 := n0_
  have BK101 := n1_
  have HB := n2_
  clear n0_ n1_ n2_
  clear hb ho11
  obtain ⟨Ao12, co12, eo12⟩ := Kd.R_slice HO106.out
  (first | subst eo12 | (injection eo12 with f1_ f2_ f3_; have f4_ := f1_.symm; have f5_ := f3_.symm; clear f1_ f2_ f3_; subst f4_; subst f5_))
  refine hK.out _ _ ⟨(blk_cell BK101.out 0).trans rfl, (blk_cell BK101.out 1).trans rfl⟩ (fun hHeld => ?_)
  clear hK K
  refine norm_ (a' := ?_) ?_ ?_
  rotate_left
  ·show Act.put _ (some 10) _ = _
   simp only [Act.put, List.setIfInBounds_toArray, List.set_cons_zero, List.set_cons_succ, i64_w, i32_w]
   rfl
  refine one_ (i := 7) (N := some 11) #[true, true, true, true, true, true, true, true, false] rfl rfl (one_of HT_.out (by kernel_rfl)) (by decide) (fun K hK => ?_)
  refine goes_ Tryz.func85 (by kernel_rfl) rfl #[.slice Ao12 y104.length co12] (by rfl) rfl rfl (by (try simp only [List.map_toArray, List.map_cons, List.map_nil]); first | done | rfl | (simp only [List.length_drop, List.length_take]; rfl)) ?_
  with_reducible refine (market_first.calls k _ _ y104 t107 _ ?side1 ?side2 A4.out).mono ?_
  (case side1 => repeat (first | exact (Kd.R_reads' HO106.out).2.2 | (with_reducible refine Kd.C_alloc ?_ _) | (with_reducible refine Kd.C_drewN ?_ _) | (with_reducible refine Kd.C_drew ?_)))
  (case side2 => exact (Kd.R_reads' HO106.out).2.1)
  rintro e w' ⟨rfl, ⟨nd, rfl⟩⟩
  refine ⟨_, rfl, ?_⟩
  refine hK.out _ _ ⟨(blk_cell BK101.out 0).trans rfl, (blk_cell BK101.out 1).trans rfl⟩ (fun hHeld => ?_)
  clear hK K
  refine norm_ (a' := ?_) ?_ ?_
  rotate_left
  ·show Act.put _ (some 11) _ = _
   simp only [Act.put, List.setIfInBounds_toArray, List.set_cons_zero, List.set_cons_succ, i64_w, i32_w]
   rfl
  refine pv_ 8 3 #[true, true, true, true, true, true, true, true, true] (any_of HT_.out (by kernel_rfl)) ?_
  refine done_ (done_of HT_.out (by kernel_rfl)) ?_
  try go_wp2
  (try (rw [drewN_self w10]; generalize hq_ : World.drewN w10 _ = w10; have n0_ : Aside0 (Kd.R (Kd.int .i64) 28 w10 w.heap.size (fun _ => True) (.slice Ao12 y104.length co12) y104) := ⟨by rw [← hq_]; exact (rs_ HO106.out)⟩; have n1_ : Aside0 (w10.heap[gb101]? = some (.cells #[.int .i64 a0_0, .int .i64 a0_1] 43 (0, 0))) := ⟨by rw [← hq_]; exact (bs_ BK101.out)⟩; have n2_ : Aside0 (Below w.heap.size w w10) := ⟨by rw [← hq_]; exact (wg_ HB.out GE101.out)⟩; clear HO106 BK101 HB hq_; have HO106 := n0_; have BK101 := n1_; have HB := n2_; clear n0_ n1_ n2_))
  have n0_ := Aside0.mk (Kd.R_drew HO106.out)
  have n1_ := Aside0.mk (blk_drew BK101.out)
  have n2_ := Aside0.mk (below_drew1 HB.out)
  clear HO106
  clear BK101
  clear HB
  have HO106 := n0_
  have BK101 := n1_
  have HB := n2_
  clear n0_ n1_ n2_
  refine start_ (n := 9) (S := fun w' => w'.cell? ⟨gb101, 0, none⟩ = some (.int .i64 a0_0) ∧ w'.cell? ⟨gb101, 1, none⟩ = some (.int .i64 a0_1)) (ds := []) #[false, false, false, false, false, false, false, false, false] (by kernel_rfl) rfl rfl ⟨(blk_cell BK101.out 0).trans rfl, (blk_cell BK101.out 1).trans rfl⟩ (fun hHeld => ?_); refine with_tabW market_checkRatio.tab4 market_checkRatio.bits4 (fun HT_ HW_ => ?_)
  generalize w10.drew = w13 at HO106 BK101 HB hHeld ⊢
  refine pv_ 1 16 #[false, true, false, false, false, false, false, false, false] (any_of HT_.out (by kernel_rfl)) ?_
  refine pv_ 3 18 #[false, true, false, true, false, false, false, false, false] (any_of HT_.out (by kernel_rfl)) ?_
  refine take_ (i := 0) (N := some 15) (v := ?_) (a' := ?_) #[true, true, false, true, false, false, false, false, false] rfl rfl (take_ofW HT_.out HW_.out (by kernel_rfl)) (fun _ _ _ h => h) (Or.inl ⟨by rfl, ?_⟩) hHeld ?_ ?_
  rotate_left
  ·rintro w' ⟨s0, s1⟩
   go_simp
   with_reducible rfl
  rotate_left
  ·simp only [Act.put, List.setIfInBounds_toArray, List.set_cons_zero, List.set_cons_succ, i64_w, i32_w]
   rfl
  refine take_ (i := 2) (N := some 17) (v := ?_) (a' := ?_) #[true, true, true, true, false, false, false, false, false] rfl rfl (take_ofW HT_.out HW_.out (by kernel_rfl)) (fun _ _ _ h => h) (Or.inl ⟨by rfl, ?_⟩) hHeld ?_ ?_
  rotate_left
  ·rintro w' ⟨s0, s1⟩
   go_simp
   with_reducible rfl
  rotate_left
  ·simp only [Act.put, List.setIfInBounds_toArray, List.set_cons_zero, List.set_cons_succ, i64_w, i32_w]
   rfl
  refine take_ (i := 4) (N := some 19) (v := ?_) (a' := ?_) #[true, true, true, true, true, false, false, false, false] rfl rfl (take_ofW HT_.out HW_.out (by kernel_rfl)) (fun _ _ _ h => h) (Or.inl ⟨by rfl, ?_⟩) hHeld ?_ ?_
  rotate_left
  ·rintro w' ⟨s0, s1⟩
   go_simp
   with_reducible rfl
  rotate_left
  ·simp only [Act.put, List.setIfInBounds_toArray, List.set_cons_zero, List.set_cons_succ, i64_w, i32_w]
   rfl
  refine one_ (i := 5) (N := some 20) #[true, true, true, true, true, true, false, false, false] rfl rfl (one_of HT_.out (by kernel_rfl)) (by decide) (fun K hK => ?_)
  refine goes_ Tryz.func95 (by kernel_rfl) rfl #[.int .i64 a0_0, .int .i64 a0_1] (by rfl) rfl rfl (by (try simp only [List.map_toArray, List.map_cons, List.map_nil]); first | done | rfl | (simp only [List.length_drop, List.length_take]; rfl)) ?_
  with_reducible refine (market_ratio.calls k a0_0 a0_1 t108 t109 _ A6.out).mono ?_
  rintro e w14 ⟨rfl, hb⟩
  refine ⟨_, rfl, ?_⟩
  have n0_ := Aside0.mk (Kd.R_below (rs_ HO106.out) hb)
  have n1_ := Aside0.mk (blk_below (g := gb101) (o := .cells #[.int .i64 a0_0, .int .i64 a0_1] 43 (0, 0)) (bs_ BK101.out) hb)
  have n2_ := Aside0.mk (below_step (wg_ HB.out GE101.out) hb)
  clear HO106
  clear BK101
  clear HB
  have HO106 := n0_
  have BK101 := n1_
  have HB := n2_
  clear n0_ n1_ n2_
  (try clear hb)
  (try clear hb2)
  (try clear hk)
  (try clear hi)
  refine hK.out _ _ ⟨(blk_cell BK101.out 0).trans rfl, (blk_cell BK101.out 1).trans rfl⟩ (fun hHeld => ?_)
  clear hK K
  refine norm_ (a' := ?_) ?_ ?_
  rotate_left
  ·show Act.put _ (some 20) _ = _
   simp only [Act.put, List.setIfInBounds_toArray, List.set_cons_zero, List.set_cons_succ, i64_w, i32_w]
   rfl
  refine pv_ 6 21 #[true, true, true, true, true, true, true, false, false] (any_of HT_.out (by kernel_rfl)) ?_
  refine one_ (i := 7) (N := some 22) #[true, true, true, true, true, true, true, true, false] rfl rfl (one_of HT_.out (by kernel_rfl)) (by decide) (fun K hK => ?_)
  refine goes_ Tryz.func90 (by kernel_rfl) rfl #[.bool (!(a0_0 == t108) || (!(a0_1 == t109))), .int .i64 1] (by rfl) rfl rfl (by (try simp only [List.map_toArray, List.map_cons, List.map_nil]); first | done | rfl | (simp only [List.length_drop, List.length_take]; rfl)) ?_
  with_reducible refine (market_when.calls (!(a0_0 == t108) || (!(a0_1 == t109))) 1 t110 _ A7.out).mono ?_
  rintro e w' ⟨rfl, ⟨nd, rfl⟩⟩
  refine ⟨_, rfl, ?_⟩
  refine hK.out _ _ ⟨(blk_cell BK101.out 0).trans rfl, (blk_cell BK101.out 1).trans rfl⟩ (fun hHeld => ?_)
  clear hK K
  refine norm_ (a' := ?_) ?_ ?_
  rotate_left
  ·show Act.put _ (some 22) _ = _
   simp only [Act.put, List.setIfInBounds_toArray, List.set_cons_zero, List.set_cons_succ, i64_w, i32_w]
   rfl
  refine pv_ 8 2 #[true, true, true, true, true, true, true, true, true] (any_of HT_.out (by kernel_rfl)) ?_
  refine done_ (done_of HT_.out (by kernel_rfl)) ?_
  try go_wp2
  go_ret
  exact ⟨by first | rfl | (simp [errW_none, errW_some] <;> rfl) | (simp [*, errW_none, errW_some] <;> rfl), by repeat (first | (with_reducible first | exact HB.out | apply below_alloc | apply pw_below_drewN | apply below_drew1 | refine below_set ?_ GE101.out) | exact HB.out)⟩
 ·rw [if_neg c5] at H
  have c5b0 : (t107 == 0) = false := beq_eq_false_iff_ne.mpr c5
  have c5b1 : (t107 != 0) = true := bne_iff_ne.mpr c5
  obtain rfl := Option.some.inj H
  go_enter Tryz.func116, Tryz.ntmps116
  try go_wp2_with (first | ((with_reducible refine gate_dst (N := 1) rfl ?_); refine box_event ?hg (N := 1) ?hd (cs := #[.int .i64 a0_0, .int .i64 a0_1]) (t := 43) ?hr ?_; (case hd => rfl); (case hg => rfl); (case hr => first | (go_simp; done) | (go_simp; rfl)); intro gb101 hg w15 hbox hb; have n0_ := Aside0.mk (below_step (ws_ HB.out) hb); have n1_ := Aside0.mk (hbox); have n2_ := Aside0.mk ((by rw [hg]; exact (below_size (ws_ HB.out)) : w.heap.size ≤ gb101)); have n3_ := Aside0.mk ((by rw [hg]; exact (below_size (ws_ HB.out)) : w.heap.size ≤ gb101)); clear HB; have HB := n0_; have BK101 := n1_; have GW101 := n2_; have GE101 := n3_; clear n0_ n1_ n2_ n3_; clear hb hbox hg))
  have n0_ := Aside0.mk (blk_drew BK101.out)
  have n1_ := Aside0.mk (below_drew1 HB.out)
  clear BK101
  clear HB
  have BK101 := n0_
  have HB := n1_
  clear n0_ n1_
  refine start_ (n := 9) (S := fun w' => w'.cell? ⟨gb101, 0, none⟩ = some (.int .i64 a0_0) ∧ w'.cell? ⟨gb101, 1, none⟩ = some (.int .i64 a0_1)) (ds := []) #[false, false, false, false, false, false, false, false, false] (by kernel_rfl) rfl rfl ⟨(blk_cell BK101.out 0).trans rfl, (blk_cell BK101.out 1).trans rfl⟩ (fun hHeld => ?_); refine with_tabW market_checkRatio.tab1 market_checkRatio.bits1 (fun HT_ HW_ => ?_)
  generalize w15.drew = w16 at BK101 HB hHeld ⊢
  refine pv_ 0 4 #[true, false, false, false, false, false, false, false, false] (any_of HT_.out (by kernel_rfl)) ?_
  refine pv_ 3 7 #[true, false, false, true, false, false, false, false, false] (any_of HT_.out (by kernel_rfl)) ?_
  refine take_ (i := 1) (N := some 5) (v := ?_) (a' := ?_) #[true, true, false, true, false, false, false, false, false] rfl rfl (take_ofW HT_.out HW_.out (by kernel_rfl)) (fun _ _ _ h => h) (Or.inl ⟨by rfl, ?_⟩) hHeld ?_ ?_
  rotate_left
  ·rintro w' ⟨s0, s1⟩
   go_simp
   with_reducible rfl
  rotate_left
  ·simp only [Act.put, List.setIfInBounds_toArray, List.set_cons_zero, List.set_cons_succ, i64_w, i32_w]
   rfl
  refine take_ (i := 4) (N := some 8) (v := ?_) (a' := ?_) #[true, true, false, true, true, false, false, false, false] rfl rfl (take_ofW HT_.out HW_.out (by kernel_rfl)) (fun _ _ _ h => h) (Or.inl ⟨by rfl, ?_⟩) hHeld ?_ ?_
  rotate_left
  ·rintro w' ⟨s0, s1⟩
   go_simp
   with_reducible rfl
  rotate_left
  ·simp only [Act.put, List.setIfInBounds_toArray, List.set_cons_zero, List.set_cons_succ, i64_w, i32_w]
   rfl
  refine one_ (i := 2) (N := some 6) #[true, true, true, true, true, false, false, false, false] rfl rfl (one_of HT_.out (by kernel_rfl)) (by decide) (fun K hK => ?_)
  refine goes_ Tryz.func91 (by kernel_rfl) rfl #[.int .i64 a0_0, .int .i64 (-999999999), .int .i64 999999999] (by rfl) rfl rfl (by (try simp only [List.map_toArray, List.map_cons, List.map_nil]); first | done | rfl | (simp only [List.length_drop, List.length_take]; rfl)) ?_
  with_reducible refine (market_within.calls a0_0 (-999999999) 999999999 t102 _ A2.out).mono ?_
  rintro e w' ⟨rfl, ⟨nd, rfl⟩⟩
  refine ⟨_, rfl, ?_⟩
  refine hK.out _ _ ⟨(blk_cell BK101.out 0).trans rfl, (blk_cell BK101.out 1).trans rfl⟩ (fun hHeld => ?_)
  clear hK K
  refine norm_ (a' := ?_) ?_ ?_
  rotate_left
  ·show Act.put _ (some 6) _ = _
   simp only [Act.put, List.setIfInBounds_toArray, List.set_cons_zero, List.set_cons_succ, i64_w, i32_w]
   rfl
  refine one_ (i := 5) (N := some 9) #[true, true, true, true, true, true, false, false, false] rfl rfl (one_of HT_.out (by kernel_rfl)) (by decide) (fun K hK => ?_)
  refine goes_ Tryz.func91 (by kernel_rfl) rfl #[.int .i64 a0_1, .int .i64 1, .int .i64 999999999] (by rfl) rfl rfl (by (try simp only [List.map_toArray, List.map_cons, List.map_nil]); first | done | rfl | (simp only [List.length_drop, List.length_take]; rfl)) ?_
  with_reducible refine (market_within.calls a0_1 1 999999999 t103 _ A3.out).mono ?_
  rintro e w' ⟨rfl, ⟨nd, rfl⟩⟩
  refine ⟨_, rfl, ?_⟩
  refine hK.out _ _ ⟨(blk_cell BK101.out 0).trans rfl, (blk_cell BK101.out 1).trans rfl⟩ (fun hHeld => ?_)
  clear hK K
  refine norm_ (a' := ?_) ?_ ?_
  rotate_left
  ·show Act.put _ (some 9) _ = _
   simp only [Act.put, List.setIfInBounds_toArray, List.set_cons_zero, List.set_cons_succ, i64_w, i32_w]
   rfl
  refine one_ (i := 6) (N := some 10) #[true, true, true, true, true, true, true, false, false] rfl rfl (one_of HT_.out (by kernel_rfl)) (by decide) (fun K hK => ?_)
  refine Kd.R_lit_step (Kd.int .i64) _ 28 ?hg (N := 10) ?hd (xs := ([t102, t103] : List Int)) (inner := [.int .i64 t102, .int .i64 t103]) (ok := fun _ => True) (okp := fun _ => True) ?hr ?hp (fun _ hk => hk) trivial (Below.refl _ _) (Nat.le_refl _) (by simp) ?_; (case hd => rfl); (case hg => rfl); (case hr => first | (go_simp; done) | (go_simp; rfl)); (case hp => exact (Reps.one (show Kd.M (Kd.int .i64) _ _ _ t102 [.int .i64 t102] from rfl) (Reps.one (show Kd.M (Kd.int .i64) _ _ _ t103 [.int .i64 t103] from rfl) (Reps.none _ _))))
  intro v105 w17 ho18 hb hg_ hnew_
  clear hg_ hnew_
  (first | rw [← Ny104.out] at ho18 | (simp only [Int.reduceToNat] at ho18; rw [← Ny104.out] at ho18))
  have n0_ := Aside0.mk (Kd.R_lower ho18 (below_size (wg_ HB.out GE101.out)))
  have n1_ := Aside0.mk (blk_below (g := gb101) (o := .cells #[.int .i64 a0_0, .int .i64 a0_1] 43 (0, 0)) (bs_ BK101.out) hb)
  have n2_ := Aside0.mk (below_step (wg_ HB.out GE101.out) hb)
  clear BK101
  clear HB
  have HO106 := n0_
  have BK101 := n1_
  have HB := n2_
  clear n0_ n1_ n2_
  clear hb ho18
  obtain ⟨Ao19, co19, eo19⟩ := Kd.R_slice HO106.out
  (first | subst eo19 | (injection eo19 with f1_ f2_ f3_; have f4_ := f1_.symm; have f5_ := f3_.symm; clear f1_ f2_ f3_; subst f4_; subst f5_))
  refine hK.out _ _ ⟨(blk_cell BK101.out 0).trans rfl, (blk_cell BK101.out 1).trans rfl⟩ (fun hHeld => ?_)
  clear hK K
  refine norm_ (a' := ?_) ?_ ?_
  rotate_left
  ·show Act.put _ (some 10) _ = _
   simp only [Act.put, List.setIfInBounds_toArray, List.set_cons_zero, List.set_cons_succ, i64_w, i32_w]
   rfl
  refine one_ (i := 7) (N := some 11) #[true, true, true, true, true, true, true, true, false] rfl rfl (one_of HT_.out (by kernel_rfl)) (by decide) (fun K hK => ?_)
  refine goes_ Tryz.func85 (by kernel_rfl) rfl #[.slice Ao19 y104.length co19] (by rfl) rfl rfl (by (try simp only [List.map_toArray, List.map_cons, List.map_nil]); first | done | rfl | (simp only [List.length_drop, List.length_take]; rfl)) ?_
  with_reducible refine (market_first.calls k _ _ y104 t107 _ ?side1 ?side2 A4.out).mono ?_
  (case side1 => repeat (first | exact (Kd.R_reads' HO106.out).2.2 | (with_reducible refine Kd.C_alloc ?_ _) | (with_reducible refine Kd.C_drewN ?_ _) | (with_reducible refine Kd.C_drew ?_)))
  (case side2 => exact (Kd.R_reads' HO106.out).2.1)
  rintro e w' ⟨rfl, ⟨nd, rfl⟩⟩
  refine ⟨_, rfl, ?_⟩
  refine hK.out _ _ ⟨(blk_cell BK101.out 0).trans rfl, (blk_cell BK101.out 1).trans rfl⟩ (fun hHeld => ?_)
  clear hK K
  refine norm_ (a' := ?_) ?_ ?_
  rotate_left
  ·show Act.put _ (some 11) _ = _
   simp only [Act.put, List.setIfInBounds_toArray, List.set_cons_zero, List.set_cons_succ, i64_w, i32_w]
   rfl
  refine pv_ 8 3 #[true, true, true, true, true, true, true, true, true] (any_of HT_.out (by kernel_rfl)) ?_
  refine done_ (done_of HT_.out (by kernel_rfl)) ?_
  try go_wp2
  go_ret
  exact ⟨by first | rfl | (simp [errW_none, errW_some] <;> rfl) | (simp [*, errW_none, errW_some] <;> rfl), by repeat (first | (with_reducible first | exact HB.out | apply below_alloc | apply pw_below_drewN | apply below_drew1 | refine below_set ?_ GE101.out) | exact HB.out)⟩
end Go.Proofs.YtfdlhbdcejlopaaGreatDoor.B
