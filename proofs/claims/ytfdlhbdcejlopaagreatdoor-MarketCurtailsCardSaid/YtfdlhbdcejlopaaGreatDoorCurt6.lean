/- MarketCurtails: the law returns true at every input, and each argument reads behind the call as it read before (condition: the listed tables of Go's library hold what the program's text lays), part 6 of 6. -/
import Derived.RangeFuncWrites
import Derived.Maps.OwnIn
import Derived.Shelf.Strings.Builder1
import Derived.Shelf.Strings.Builder2
import Derived.Shelf.Strings.OnBuilder
import Derived.Test.YtfdlhbdcejlopaaGreatDoorProg
import Derived.Shelf.Strconv.Itoa0
import Derived.Shelf.Strconv.Itoa1
import Derived.Shelf.LaysM
import Derived.Shelf.Strconv.Itoa2
import Derived.Shelf.Strconv.Itoa3
import Derived.Test.YtfdlhbdcejlopaaGreatDoorTie
import Derived.Test.YtfdlhbdcejlopaaGreatDoorCards
import Derived.SevenTiedAt
import Derived.Test.YtfdlhbdcejlopaaGreatDoorCurt5
import Derived.Test.YtfdlhbdcejlopaaGreatDoorCurtF1
import Derived.Test.YtfdlhbdcejlopaaGreatDoorCurtF2
namespace Go.Proofs.YtfdlhbdcejlopaaGreatDoor.B
open Go.RowKit Go.Shelf Go.Proofs.YtfdlhbdcejlopaaGreatDoorW.PrintWords Go.Proofs.YtfdlhbdcejlopaaGreatDoorW.PrintLast Go.Proofs.YtfdlhbdcejlopaaGreatDoorW.PrintMore
attribute [local go_sem] max2_int min2_int max_two min_two i64_w Oper.semAt_some
set_option linter.unusedVariables false
set_option linter.unusedSimpArgs false
def knownV (xs : List (Int × Int)) (e : Int) : Int := xs.foldl (fun n x => if x.1 = e then wrap64 (n + x.2) else n) 0
theorem knownV_snoc (xs : List (Int × Int)) (x : Int × Int) (e : Int) : knownV (xs ++ [x]) e = if x.1 = e then wrap64 (knownV xs e + x.2) else knownV xs e := by
 unfold knownV
 rw [List.foldl_append]
 rfl
theorem knownV_w64 (xs : List (Int × Int)) (e : Int) : W64 (knownV xs e) := by
 unfold knownV
 suffices h : ∀ (xs : List (Int × Int)) (n : Int), W64 n → W64 (xs.foldl (fun n x => if x.1 = e then wrap64 (n + x.2) else n) n) from h xs 0 (by unfold W64; omega)
 intro xs
 induction xs with
 | nil => intro n h; exact h
 | cons x xs ih =>
  intro n h
  rw [List.foldl_cons]
  apply ih
  split
  ·exact wrap64_w64 _
  ·exact h
def searchV (kn : Int → Int) (den rhs : Int) : List Int → Int → Int → Int
 | [], _, least => least
 | e :: es, below, _ => if wrap64 (wrap64 (below + kn e) * den) ≥ rhs then e else searchV kn den rhs es (wrap64 (below + kn e)) e
def market_Quantile.f (k : Nat) (l0 : List S156) (a1 a2_0 a2_1 : Int) : Option (Int × Int) :=
 (market_checkQuarter.f k l0 a1).bind fun t1 => (market_checkRatio.f k a2_0 a2_1).bind fun t2 => (market_when.f (decide (a2_0 < 0) || decide (a2_0 > a2_1)) 3).bind fun t3 => (market_first.f k ([t1, t2, t3] : List Int)).bind fun t4 =>
  if t4 = 0 then (market_weight.f k l0).bind fun wt => (if 0 ≤ a1 ∧ (l0.all fun s => decide (a1 < s.f1.length)) = true ∧ l0.length < 1099511627776 ∧ (l0.all fun s => s.f1.all fun e => decide (0 ≤ e ∧ e ≤ 100000)) = true then
   some (searchV (knownV (outs a1 l0)) a2_1 (wrap64 (a2_0 * wt)) (Go.Lib.compact (isort (energiesQ a1 l0))) 0 0, 0) else none) else some (0, t4)
def KnownD (xs : List (Int × Int)) (D : DataW Unit) : Prop := ∀ e, W64 e → D.atKey (.int .i64 e) (.lit (.int .i64 0)) = .lit (.int .i64 (knownV xs e))
theorem KnownD.nil : KnownD [] (.map []) := fun e _ => rfl
theorem KnownD.snoc {xs : List (Int × Int)} {D : DataW Unit} (h : KnownD xs D) (hD : Maps.IsMap D) (x : Int × Int) (hx : W64 x.1) : KnownD (xs ++ [x]) (D.put (.int .i64 x.1) (.lit (.int .i64 (wrap64 (knownV xs x.1 + x.2))))) := by
 intro e he
 rw [knownV_snoc]
 by_cases e1 : x.1 = e
 ·subst e1
  rw [if_pos rfl]
  exact Maps.atKey_put_same hD ((Maps.int_keyed Tryz.underlying3).key (Maps.keyOf_int_mk Tryz.underlying3 (wf64 hx))) _ _
 ·rw [if_neg e1, Maps.atKey_put_other (by intro h2; cases h2; exact e1 rfl)]
  exact h e he
theorem rd_all (l : List Int) (p : Int → Prop) [DecidablePred p] (h0 : p 0) (h : (l.all fun e => decide (p e)) = true) (i : Int) : p (rd l i) := by
 unfold rd
 rw [List.getD_eq_getElem?_getD]
 cases he : l[i.toNat]? with
 | none => exact h0
 | some e => simpa using List.all_eq_true.1 h e (List.mem_of_getElem? he)
theorem outs_w64 (q : Int) (l0 : List S156) (h : (l0.all fun s => s.f1.all fun e => decide (0 ≤ e ∧ e ≤ 100000)) = true) (j : Nat) : W64 (nthO q l0 j).1 := by
 unfold nthO
 rw [List.getD_eq_getElem?_getD]
 cases he : (outs q l0)[j]? with
 | none => show W64 0; unfold W64; omega
 | some x =>
  have hm := List.mem_of_getElem? he
  unfold outs at hm
  obtain ⟨s, hs, rfl⟩ := List.mem_map.1 hm
  have h1 := rd_all s.f1 (fun e => 0 ≤ e ∧ e ≤ 100000) (by omega) (List.all_eq_true.1 h s hs) q
  show W64 (rd s.f1 q)
  unfold W64
  omega
theorem outs_range (q : Int) (l0 : List S156) : (List.range l0.length).map (nthO q l0) = outs q l0 := by
 have hl : (outs q l0).length = l0.length := by simp [outs]
 rw [← hl]
 apply List.ext_getElem
 ·simp
 ·intro i h1 h2
  simp [nthO, List.getD_eq_getElem?_getD, List.getElem?_eq_getElem h2]
theorem mapQ119_l0 (q : Int) (l : List S156) (hq : 0 ≤ q) (hall : ∀ s ∈ l, q < s.f1.length) (hl : l.length < 1099511627776) : ∀ (m k : Nat) (j : Nat) (acc : List Int), l.length - j = m → m < k → j ≤ l.length → acc.length = j → mapQ119.l0 q k acc l (l.length : Int) (j : Int) = some (acc ++ energiesQ q (l.drop j))
 | 0, k + 1, j, acc, hm, _, hj, ha => by
  unfold mapQ119.l0
  rw [if_neg (by omega), List.drop_of_length_le (by omega)]
  simp [energiesQ]
 | m + 1, k + 1, j, acc, hm, hk, hj, ha => by
  unfold mapQ119.l0
  have hjl : j < l.length := by omega
  have hrd : rd_T156 l (j : Int) = l[j] := by simp [rd_T156, List.getD_eq_getElem?_getD, List.getElem?_eq_getElem hjl]
  rw [if_pos (by omega), if_pos (by omega), if_pos (by omega), hrd, outQ_f q _ hq (hall _ (List.getElem_mem hjl))]
  show (if acc.length < 17592186044416 then _ else none) = _
  rw [if_pos (by omega), show wrap64 ((j : Int) + 1) = ((j + 1 : Nat) : Int) from by rw [w64 _ (by omega)]; omega]
  rw [mapQ119_l0 q l hq hall hl m k (j + 1) _ (by omega) (by omega) (by omega) (by simp [ha])]
  rw [List.append_assoc, List.drop_eq_getElem_cons hjl]
  rfl
theorem mapQ119_f (q : Int) (l : List S156) (hq : 0 ≤ q) (hall : ∀ s ∈ l, q < s.f1.length) (hl : l.length < 1099511627776) : mapQ119.f (l.length + 1) l q = some (energiesQ q l) := by
 unfold mapQ119.f
 rw [show (0 : Int) = ((0 : Nat) : Int) from rfl, mapQ119_l0 q l hq hall hl l.length (l.length + 1) 0 [] (by omega) (by omega) (by omega) rfl]
 rfl
theorem compact_mem (zs : List Int) (e : Int) (h : e ∈ Go.Lib.compact zs) : e ∈ zs := by
 unfold Go.Lib.compact Go.Lib.compactUpTo at h
 obtain ⟨i, hi, rfl⟩ := List.mem_map.1 h
 have hlt : i < zs.length := by simpa using (List.mem_filter.1 hi).1
 simp [hlt]
theorem searched_w64 (q : Int) (l0 : List S156) (h : (l0.all fun s => s.f1.all fun e => decide (0 ≤ e ∧ e ≤ 100000)) = true) (e : Int) (he : e ∈ Go.Lib.compact (isort (energiesQ q l0))) : W64 e := by
 have h1 := (isort_perm _).mem_iff.1 (compact_mem _ _ he)
 unfold energiesQ at h1
 obtain ⟨s, hs, rfl⟩ := List.mem_map.1 h1
 have h2 := rd_all s.f1 (fun e => 0 ≤ e ∧ e ≤ 100000) (by omega) (List.all_eq_true.1 h s hs) q
 unfold W64
 omega
theorem searchV_cons (kn : Int → Int) (den rhs : Int) (L : List Int) (k : Nat) (hk : k < L.length) (b m e : Int) (he : L[k] = e) : searchV kn den rhs (L.drop k) b m = if wrap64 (wrap64 (b + kn e) * den) ≥ rhs then e else searchV kn den rhs (L.drop (k + 1)) (wrap64 (b + kn e)) e := by
 rw [List.drop_eq_getElem_cons hk, he]
 rfl
structure QI (w : World) (M : Nat) (q n d : Int) (xs : List (Int × Int)) (W : World) : Prop where
 below : Below w.heap.size w W
 k0 : W.heap[w.heap.size]? = some (.cells #[.int .i64 q] 3 (0, 0))
 k1 : W.heap[w.heap.size + 1]? = some (.cells #[.int .i64 n, .int .i64 d] 43 (0, 0))
 kx : W.heap[M + 1]? = some (.cells #[.map (some M)] 175 (0, 0))
 kq : W.heap[M + 3]? = some (.cells #[.int .i64 q] 3 (0, 0))
 map : ∃ D, KnownD xs D ∧ W.ownsMap Tryz.prog 3 (plainElem Tryz.prog 3) M xs.length D
theorem QI.grown {w : World} {M : Nat} {q n d : Int} {xs : List (Int × Int)} {W W' : World} (h : QI w M q n d xs W) {row : Option Nat} (hg : W.grownBy W' row) (hw : w.heap.size + 1 < M) (hr : ∀ r, row = some r → M + 3 < r) : QI w M q n d xs W' := by
 obtain ⟨D, h1, h2⟩ := h.map
 have hne : ∀ k, k ≤ M + 3 → some k ≠ row := fun k hk e => by have := hr k e.symm; omega
 exact ⟨h.below.grown hg h.below.size (fun k e => by have := hr k e; omega), blk_grown h.k0 hg (hne _ (by omega)), blk_grown h.k1 hg (hne _ (by omega)), blk_grown h.kx hg (hne _ (by omega)), blk_grown h.kq hg (hne _ (by omega)), D, h1, h2.kept hg (hne _ (by omega))⟩
theorem QI.later {w : World} {M : Nat} {q n d : Int} {xs : List (Int × Int)} {W W' : World} (h : QI w M q n d xs W) (hw : w.heap.size + 1 < M) (hb : Below W.heap.size W W') : QI w M q n d xs W' :=
 h.grown (grown_of_below hb none) hw (fun r e => by cases e)
theorem QI.store {w : World} {M : Nat} {q n d : Int} {xs : List (Int × Int)} {W W' : World} {D : DataW Unit} {y : Int × Int} {c : Int} (h : QI w M q n d xs W) (hw : w.heap.size + 1 < M) (hD : KnownD xs D) (hm : W.ownsMap Tryz.prog 3 (plainElem Tryz.prog 3) M xs.length D) (hy : W64 y.1)
  (hc : D.atKey (.int .i64 y.1) (.lit (.int .i64 0)) = .lit (.int .i64 c)) (ho : W'.ownsMap Tryz.prog 3 (plainElem Tryz.prog 3) M (xs.length + 1) (D.put (.int .i64 y.1) (.lit (.int .i64 (wrap64 (c + y.2)))))) (hg : W.grownBy W' (some M)) : QI w M q n d (xs ++ [y]) W' := by
 have hne : ∀ k, k ≠ M → some k ≠ (some M : Option Nat) := fun k hk e => hk (Option.some.inj e)
 have hcv : c = knownV xs y.1 := by
  have h1 := hD y.1 hy
  rw [hc] at h1
  cases h1
  rfl
 have him : Maps.IsMap D := by
  obtain ⟨es, cl, _, _, _, e⟩ := hm
  exact ⟨_, e⟩
 refine ⟨h.below.grown hg h.below.size (fun k e => by cases e; omega), blk_grown h.k0 hg (hne _ (by omega)), blk_grown h.k1 hg (hne _ (by omega)), blk_grown h.kx hg (hne _ (by omega)), blk_grown h.kq hg (hne _ (by omega)), _, hD.snoc him y hy, ?_⟩
 rw [← hcv]
 simpa using ho
theorem QI.own {w : World} {M : Nat} {q n d : Int} (hw : w.heap.size + 1 < M) {B : Nat} (hB : M + 3 < B) : OwnFrom B (QI w M q n d) := fun s W W' row hs hg hr => hs.grown hg hw (fun r e => by have := (hr r e).1; omega)
set_option maxRecDepth 100000 in
set_option maxHeartbeats 1000000 in
theorem market_Quantile.calls (k : Nat) (A0 : Option Addr) (c0 : Nat) (l0 : List S156) (a1 a2_0 a2_1 : Int) (r1 r2 : Int) (w : World) (hr0 : Kd.C k156 w A0 l0.length l0) (hc0 : l0.length ≤ c0) (h : market_Quantile.f k l0 a1 a2_0 a2_1 = some (r1, r2)) :
  Calls Tryz.prog 45 #[.slice A0 l0.length c0, .int .i64 a1, .agg #[.int .i64 a2_0, .int .i64 a2_1]] w fun e w' => e = .returned (.tuple #[.int .i64 r1, .int .i64 r2]) ∧ Below w.heap.size w w' := by
 unfold market_Quantile.f at h
 obtain ⟨t1, h1, hh1⟩ := Option.bind_eq_some_iff.mp h
 clear h
 obtain ⟨t2, h2, hh2⟩ := Option.bind_eq_some_iff.mp hh1
 clear hh1
 obtain ⟨t3, h3, hh3⟩ := Option.bind_eq_some_iff.mp hh2
 clear hh2
 obtain ⟨t4, h4, h⟩ := Option.bind_eq_some_iff.mp hh3
 clear hh3
 have H1 := Aside0.mk h1
 have H2 := Aside0.mk h2
 have H3 := Aside0.mk h3
 have H4 := Aside0.mk h4
 have H := Aside0.mk h
 have HR0 := Aside0.mk hr0
 have HC0 := Aside0.mk hc0
 clear h1 h2 h3 h4 h hr0 hc0
 refine (callsIn_wide (n := 6)).1 ?_
 refine callsIn_of_wp_marks Tryz.func45 rfl trivial ?_ rfl
 refine wpIn_wide.2 (wp_noPanic ?_)
 simp only [Tryz.ntmps45, List.size_toArray, List.length_cons, List.length_nil, Nat.reduceAdd, Nat.reduceSub, Array.replicate_succ, Array.replicate_zero, List.push_toArray, List.append_toArray, List.nil_append, List.cons_append]
 go_wp2
 go_step3
 go_wp2
 have hB0 : Below w.heap.size w ((w.alloc (.cells #[.int .i64 a1] 3)).alloc (.cells #[.int .i64 a2_0, .int .i64 a2_1] 43)) := below_alloc (below_alloc (Below.refl _ _) _) _
 have hK0 : ((w.alloc (.cells #[.int .i64 a1] 3)).alloc (.cells #[.int .i64 a2_0, .int .i64 a2_1] 43)).heap[w.heap.size]? = some (.cells #[.int .i64 a1] 3 (0, 0)) := blk_alloc (blk_new w _) _
 have hK1 : ((w.alloc (.cells #[.int .i64 a1] 3)).alloc (.cells #[.int .i64 a2_0, .int .i64 a2_1] 43)).heap[w.heap.size + 1]? = some (.cells #[.int .i64 a2_0, .int .i64 a2_1] 43 (0, 0)) := by have := blk_new (w.alloc (.cells #[.int .i64 a1] 3)) (.cells #[.int .i64 a2_0, .int .i64 a2_1] 43); simpa using this
 generalize (w.alloc (.cells #[.int .i64 a1] 3)).alloc (.cells #[.int .i64 a2_0, .int .i64 a2_1] 43) = W0 at *
 have KB := Aside0.mk (below_drew1 hB0)
 have KK0 := Aside0.mk (blk_drew hK0)
 have KK1 := Aside0.mk (blk_drew hK1)
 clear hB0 hK0 hK1
 have hu43 := Tryz.underlying43
 refine start_ (n := 19) (S := fun w' => w'.cell? ⟨w.heap.size, 0, none⟩ = some (.int .i64 a1) ∧ w'.cell? ⟨w.heap.size + 1, 0, none⟩ = some (.int .i64 a2_0) ∧ w'.cell? ⟨w.heap.size + 1, 1, none⟩ = some (.int .i64 a2_1)) (ds := []) #[false, false, false, false, false, false, false, false, false, false, false, false, false, false, false, false, false, false, false] (by kernel_rfl) rfl rfl ⟨(blk_cell KK0.out 0).trans rfl, (blk_cell KK1.out 0).trans rfl, (blk_cell KK1.out 1).trans rfl⟩ (fun hHeld => ?_)
 generalize W0.drew = W1 at *
 cases hd : decide (a2_0 < 0)
 all_goals
  refine pu_ 0 17 (h := ?_)
  refine ta_ 1 18 hHeld (h := ?_)
  refine ta_ 3 20 hHeld (h := ?_)
  refine pu_ 5 22 (h := ?_)
  refine ta_ 6 23 hHeld (h := ?_)
  refine pu_ 7 24 (h := ?_)
  refine ca_ 2 19 (f := 94) (fn := Tryz.f94) #[.slice A0 l0.length c0, .int .i64 a1] (hf := Tryz.func94) (h := ?_)
  refine (market_checkQuarter.calls k A0 c0 l0 a1 t1 _ (Kd.C_below HR0.out KB.out) HC0.out H1.out).mono ?_
  rintro e W2 ⟨rfl, hb⟩
  have KB' := Aside0.mk (below_step KB.out hb)
  have KK0' := Aside0.mk (blk_below KK0.out hb)
  have KK1' := Aside0.mk (blk_below KK1.out hb)
  clear hb hHeld KB KK0 KK1
  have KB := KB'; have KK0 := KK0'; have KK1 := KK1'
  clear KB' KK0' KK1'
  refine ⟨_, rfl, ⟨(blk_cell KK0.out 0).trans rfl, (blk_cell KK1.out 0).trans rfl, (blk_cell KK1.out 1).trans rfl⟩, fun hHeld => ⟨_, rfl, ?_⟩⟩
  refine ca_ 4 21 (f := 116) (fn := Tryz.f116) #[.agg #[.int .i64 a2_0, .int .i64 a2_1]] (hf := Tryz.func116) (h := ?_)
  refine (market_checkRatio.calls k a2_0 a2_1 t2 _ H2.out).mono ?_
  rintro e W3 ⟨rfl, hb⟩
  have KB' := Aside0.mk (below_step KB.out hb)
  have KK0' := Aside0.mk (blk_below KK0.out hb)
  have KK1' := Aside0.mk (blk_below KK1.out hb)
  clear hb hHeld KB KK0 KK1
  have KB := KB'; have KK0 := KK0'; have KK1 := KK1'
  clear KB' KK0' KK1'
  refine ⟨_, rfl, ⟨(blk_cell KK0.out 0).trans rfl, (blk_cell KK1.out 0).trans rfl, (blk_cell KK1.out 1).trans rfl⟩, fun hHeld => ⟨_, rfl, ?_⟩⟩
  refine pu_ 8 25 (h := ?_)
 case' true =>
  refine un_ 9 26 (h := ?_)
  refine un_ 10 27 (h := ?_)
  refine un_ 11 28 (h := ?_)
  refine un_ 12 29 (h := ?_)
  refine un_ 13 30 (h := ?_)
  refine pu_ 14 31 (h := ?_)
  have hor : (decide (a2_0 < 0) || decide (a2_0 > a2_1)) = true := by rw [hd]; rfl
  obtain ⟨gb, hgb⟩ : ∃ gb : Bool, gb = true := ⟨_, rfl⟩
 case' false =>
  refine pu_ 9 26 (h := ?_)
  refine ta_ 10 27 hHeld (h := ?_)
  refine pu_ 11 28 (h := ?_)
  refine ta_ 12 29 hHeld (h := ?_)
  refine pu_ 13 30 (h := ?_)
  refine pu_ 14 31 (h := ?_)
  have hor : (decide (a2_0 < 0) || decide (a2_0 > a2_1)) = decide (a2_1 < a2_0) := by rw [hd]; rfl
 all_goals
  rw [hor] at H3
  clear hor hd
  refine ca_ 15 32 (f := 90) (fn := Tryz.f90) #[.bool _, .int .i64 3] (hf := Tryz.func90) (h := ?_)
  refine (market_when.calls _ 3 t3 _ H3.out).mono ?_
  rintro e W4 ⟨rfl, hb⟩
  replace hb := drawn_below hb
  have KB' := Aside0.mk (below_step KB.out hb)
  have KK0' := Aside0.mk (blk_below KK0.out hb)
  have KK1' := Aside0.mk (blk_below KK1.out hb)
  clear hb hHeld KB KK0 KK1
  have KB := KB'; have KK0 := KK0'; have KK1 := KK1'
  clear KB' KK0' KK1'
  refine ⟨_, rfl, ⟨(blk_cell KK0.out 0).trans rfl, (blk_cell KK1.out 0).trans rfl, (blk_cell KK1.out 1).trans rfl⟩, fun hHeld => ⟨_, rfl, ?_⟩⟩
  have hv5 : (W4.alloc (.cells #[.int .i64 t1, .int .i64 t2, .int .i64 t3] 28)).heap[W4.heap.size]? = some (.cells (([t1, t2, t3] : List Int).map (Value.int .i64)).toArray 28 (0, 0)) := blk_new W4 _
  have hb5 : Below W4.heap.size W4 (W4.alloc (.cells #[.int .i64 t1, .int .i64 t2, .int .i64 t3] 28)) := below_alloc (Below.refl _ _) _
  refine ma_ 16 33 (w1 := W4.alloc (.cells #[.int .i64 t1, .int .i64 t2, .int .i64 t3] 28)) (hs := ⟨pw_cell_below hb5 hHeld.1, pw_cell_below hb5 hHeld.2.1, pw_cell_below hb5 hHeld.2.2⟩) (h := fun hHeld => ?_)
  have hL5 := Aside0.mk (C_lit hv5 (by simp))
  clear hv5
  have KB' := Aside0.mk (below_step KB.out hb5)
  have KK0' := Aside0.mk (blk_below KK0.out hb5)
  have KK1' := Aside0.mk (blk_below KK1.out hb5)
  clear hb5 hHeld KB KK0 KK1
  have KB := KB'; have KK0 := KK0'; have KK1 := KK1'
  clear KB' KK0' KK1'
  generalize W4.alloc (.cells #[.int .i64 t1, .int .i64 t2, .int .i64 t3] 28) = W5 at *
  refine ca_ 17 34 (f := 85) (fn := Tryz.f85) #[.slice (some ⟨W4.heap.size, 0, none⟩) 3 3] (hf := Tryz.func85) (h := ?_)
  refine (market_first.calls k (some ⟨W4.heap.size, 0, none⟩) 3 ([t1, t2, t3] : List Int) t4 _ (Kd.C_below hL5.out (Below.refl _ _)) (by simp) H4.out).mono ?_
  rintro e W6 ⟨rfl, hb⟩
  replace hb := drawn_below hb
  have KB' := Aside0.mk (below_step KB.out hb)
  have KK0' := Aside0.mk (blk_below KK0.out hb)
  have KK1' := Aside0.mk (blk_below KK1.out hb)
  clear hb hHeld KB KK0 KK1
  have KB := KB'; have KK0 := KK0'; have KK1 := KK1'
  clear KB' KK0' KK1'
  refine ⟨_, rfl, ⟨(blk_cell KK0.out 0).trans rfl, (blk_cell KK1.out 0).trans rfl, (blk_cell KK1.out 1).trans rfl⟩, fun hHeld => ⟨_, rfl, ?_⟩⟩
  refine pu_ 18 8 (h := ?_)
  refine done_ (by decide +kernel) ?_
  clear hHeld hL5 H1 H2 H3 H4
  by_cases c4 : t4 = 0
  case neg =>
   have b0 : (t4 == 0) = false := beq_eq_false_iff_ne.mpr c4
   have b1 : (t4 != 0) = true := bne_iff_ne.mpr c4
   have hh := H.out
   rw [if_neg c4] at hh
   cases hh
   clear c4 H
   go_wp2
   exact ⟨_, results_tmp2 rfl _ _ _, rfl, KB.out⟩
  case' pos =>
   have b0 : (t4 == 0) = true := beq_iff_eq.mpr c4
   have b1 : (t4 != 0) = false := bne_eq_false_iff_eq.mpr c4
   have hh := H.out
   rw [if_pos c4] at hh
   obtain ⟨wt, hwt, hh⟩ := Option.bind_eq_some_iff.mp hh
   split at hh
   case' isFalse => cases hh
   rename_i hgd
   cases hh
   clear c4 H
   have HG := Aside0.mk hgd
   have HW := Aside0.mk hwt
   clear hgd hwt
   clear hh
   have hmm := @run_makeMap Tryz.prog
   have hq0 : W6.cell? ⟨w.heap.size, 0, none⟩ = some (.int .i64 a1) := (blk_cell KK0.out 0).trans rfl
   have hlt0 := blk_lt KK0.out
   have hlt1 := Aside0.mk (blk_lt KK1.out)
   go_wp2_with fail
   refine (out_calls A0 l0.length c0 a1 _).mono ?_
   rintro e W8 ⟨rfl, hW8⟩
   have q1 : Below w.heap.size w W8 := by rw [← hW8]; exact below_alloc (below_alloc (below_alloc (below_alloc KB.out _) _) _) _
   have q2 := blk_alloc (blk_alloc (blk_alloc (blk_alloc KK0.out (.map #[] 0)) (.cells #[.map (some W6.heap.size)] 175)) (.cells #[.slice A0 l0.length c0] 37)) (.cells #[.int .i64 a1] 3)
   have q3 := blk_alloc (blk_alloc (blk_alloc (blk_alloc KK1.out (.map #[] 0)) (.cells #[.map (some W6.heap.size)] 175)) (.cells #[.slice A0 l0.length c0] 37)) (.cells #[.int .i64 a1] 3)
   have q4 := ((((World.ownsMap_made (H := Unit) W6 Tryz.prog 3 (plainElem Tryz.prog 3)).alloc (.cells #[.map (some W6.heap.size)] 175)).alloc (.cells #[.slice A0 l0.length c0] 37)).alloc (.cells #[.int .i64 a1] 3))
   have q5 : W8.heap[W6.heap.size + 1]? = some (.cells #[.map (some W6.heap.size)] 175 (0, 0)) := by
    rw [← hW8]
    have := blk_alloc (blk_alloc (blk_new (W6.alloc (.map #[] 0)) (.cells #[.map (some W6.heap.size)] 175)) (.cells #[.slice A0 l0.length c0] 37)) (.cells #[.int .i64 a1] 3)
    simpa using this
   have q6 : W8.heap[W6.heap.size + 2]? = some (.cells #[.slice A0 l0.length c0] 37 (0, 0)) := by
    rw [← hW8]
    have := blk_alloc (blk_new ((W6.alloc (.map #[] 0)).alloc (.cells #[.map (some W6.heap.size)] 175)) (.cells #[.slice A0 l0.length c0] 37)) (.cells #[.int .i64 a1] 3)
    simpa using this
   have q7 : W8.heap[W6.heap.size + 3]? = some (.cells #[.int .i64 a1] 3 (0, 0)) := by
    rw [← hW8]
    have := blk_new (((W6.alloc (.map #[] 0)).alloc (.cells #[.map (some W6.heap.size)] 175)).alloc (.cells #[.slice A0 l0.length c0] 37)) (.cells #[.int .i64 a1] 3)
    simpa using this
   rw [hW8] at q2 q3 q4
   have q8 : W8.heap.size = W6.heap.size + 4 := by rw [← hW8]; simp
   clear hW8 KB KK0 KK1 hq0
   have KB := Aside0.mk q1; have KK0 := Aside0.mk q2; have KK1 := Aside0.mk q3; have KM := Aside0.mk q4; have KX := Aside0.mk q5; have KL := Aside0.mk q6; have KQ := Aside0.mk q7; have KS8 := Aside0.mk q8
   clear q1 q2 q3 q4 q5 q6 q7 q8
   simp only [World.size_alloc]
   generalize W6.heap.size = M at *
   have hMs : w.heap.size + 1 < M := hlt1.out
   obtain ⟨hq0, hall0, hlen, hen⟩ := HG.out
   have HE := Aside0.mk hen
   clear hen
   have hall : ∀ s ∈ l0, a1 < s.f1.length := fun s hs => by simpa using List.all_eq_true.1 hall0 s hs
   have HALL := Aside0.mk hall
   have hQI : QI w M a1 a2_0 a2_1 [] W8 := ⟨KB.out, KK0.out, KK1.out, KX.out, KQ.out, .map [], KnownD.nil, KM.out⟩
   have HQI := Aside0.mk hQI
   clear hall hQI hlt0
   go_wp2
   refine wpIn_wide.1 (wpIn_rangeFunc_ownG (n := 6) rfl (by omega) (gf := 151) (lb := #[.pointer (some ⟨M + 1 + 1, 0, none⟩), .pointer (some ⟨M + 1 + 1 + 1, 0, none⟩)]) rfl trivial (enters_of Tryz.func151 (by kernel_rfl) rfl)
    (out_stopsN 5 (by omega) w W8 KB.out (M + 1 + 1) (M + 1 + 1 + 1) A0 c0 l0 a1 ((blk_cell KL.out 0).trans rfl) ((blk_cell KQ.out 0).trans rfl) HR0.out HC0.out hq0 HALL.out)
    KpOut.trans (KpOut.put KB.out.size (by rw [KS8.out]; omega)) (Below.refl _ _) (fun _ => rfl)
    (fun js => QI w M a1 a2_0 a2_1 (js.map (nthO a1 l0))) (fun _ _ _ => False) (fun s W W' row hs hg hr => hs.grown hg hMs (fun r e => by have h1 := (hr r e).1; rw [KS8.out] at h1; omega)) (fun _ => Own.from (fun _ _ _ _ hs _ _ => hs) _) HQI.out _ (fun l x W K hK => by gi_wp2; exact hK) ?_ ?_ ?_)
   ·rintro l pre x W hI hpl
    obtain ⟨y, hy⟩ : ∃ y, nthO a1 l0 x = y := ⟨_, rfl⟩
    have hyw := outs_w64 a1 l0 HE.out x
    rw [hy] at hyw
    obtain ⟨D, hD1, hD2⟩ := hI.map
    have HY := Aside0.mk hy
    have HI := Aside0.mk hI
    have HD1 := Aside0.mk hD1
    have HD2 := Aside0.mk hD2
    have HYW := Aside0.mk hyw
    have hcx : W.cell? ⟨M + 1, 0, none⟩ = some (.map (some M)) := (blk_cell hI.kx 0).trans rfl
    have hpl1 : Aside0 (pre.length < maxLen) := ⟨by unfold maxLen; omega⟩
    clear hI hD1 hD2 hyw hpl
    rw [hy]
    clear hy
    gi_wp2_with (first
     | (gi_at_lookup; refine wpListIn_lookup_own_int (H := Unit) _ rfl _ _ 175 rfl 3 3 .i64 (Maps.int_keyed Tryz.underlying3) Tryz.underlying175 Tryz.underlying3 (zero3 _) M _ D rfl HD2.out _ (.int .i64 y.1) rfl (Maps.keyOf_int_mk Tryz.underlying3 (wf64 HYW.out)) ?_; intro c hat hwc)
     | (gi_at_mapUpdate; refine wpListIn_mapUpdate_own (H := Unit) _ rfl _ _ _ 175 rfl 3 3 (Maps.int_keyed Tryz.underlying3) Tryz.underlying175 (plainElem Tryz.prog 3) M _ D rfl HD2.out ?hn _ _ (.int .i64 y.1) rfl rfl (Maps.keyOf_int_mk Tryz.underlying3 (wf64 HYW.out)) (.lit (.int .i64 (wrap64 (c + y.2)))) [] (plainElem_int Tryz.underlying3 (wf64 (wrap64_w64 _))) ?_; (case hn => simp; exact hpl1.out); intro W2 hown hg2))
    clear hcx
    refine ⟨KeepsFrom.of_grownBy hg2 (fun j e => by cases e; rw [KS8.out]; omega), ⟨(Below.refl _ _).grown hg2 HI.out.below.size (fun k e => by cases e; omega), hg2.block _ (blk_lt HI.out.kq) (fun e => by cases e)⟩, ?_⟩
    show QI w M a1 a2_0 a2_1 ((pre ++ [x]).map (nthO a1 l0)) W2
    rw [List.map_append, List.map_cons, List.map_nil, HY.out]
    exact HI.out.store hMs HD1.out HD2.out HYW.out hat hown hg2
   ·rintro D xs W hD rfl hI hK
    have HI : Aside0 (QI w M a1 a2_0 a2_1 (outs a1 l0) W) := ⟨by rw [← outs_range]; exact hI⟩
    have HK := Aside0.mk hK
    have HDs2 : Aside0 (w.heap.size ≤ D) := ⟨Nat.le_trans KB.out.size hD⟩
    clear hI hK hD KB KK0 KK1 KM KX KL KQ HQI
    have hmf : ∀ (fn : Fn) (first cap : Array Value) (w : World), (Instr.makeFunc fn first cap).run Tryz.prog w = .ok (.func fn first cap) w := fun _ _ _ _ => rfl
    go_wp2_with fail
    refine (mapQ119.calls (l0.length + 1) A0 c0 l0 a1 ⟨w.heap.size, 0, none⟩ (energiesQ a1 l0) _ ((blk_cell HI.out.k0 0).trans rfl) (Kd.C_below HR0.out HI.out.below) HC0.out (mapQ119_f a1 l0 hq0 HALL.out hlen)).mono ?_
    rintro e W9 ⟨v9, rfl, ho9, hb9⟩
    have HO9 := Aside0.mk ho9
    have HB9 := Aside0.mk hb9
    clear ho9 hb9
    have hle : (energiesQ a1 l0).length = l0.length := by simp [energiesQ]
    go_wp2_with fail
    refine (sort_R HO9.out HB9.out HB9.out.size (by rw [hle]; omega)).mono ?_
    rintro e W10 ⟨rfl, ho9, hb9, _⟩
    have HO10 := Aside0.mk ho9
    have HB10 := Aside0.mk hb9
    clear ho9 hb9 HO9 HB9
    go_wp2_with fail
    go_step3
    go_wp2_with fail
    refine (compact_R HO10.out HB10.out HB10.out.size (by rw [isort_length, hle]; omega)).mono ?_
    rintro e W11 ⟨v11, rfl, ho9, hb9, _, _⟩
    have HO11 := Aside0.mk ho9
    have HB11 := Aside0.mk hb9
    clear ho9 hb9 HO10 HB10
    have HLW := Aside0.mk (searched_w64 a1 l0 HE.out)
    have hll : (Go.Lib.compact (isort (energiesQ a1 l0))).length ≤ l0.length := by
     have h1 := compact_length_le (isort (energiesQ a1 l0))
     rw [isort_length, hle] at h1
     exact h1
    obtain ⟨L, hL⟩ : ∃ L, Go.Lib.compact (isort (energiesQ a1 l0)) = L := ⟨_, rfl⟩
    obtain ⟨rhs, hrhs⟩ : ∃ r, wrap64 (a2_0 * wt) = r := ⟨_, rfl⟩
    rw [hL] at HO11 HLW hll
    have HRH := Aside0.mk hrhs
    obtain ⟨fin, hfin⟩ : ∃ r, searchV (knownV (outs a1 l0)) a2_1 rhs L 0 0 = r := ⟨_, rfl⟩
    have HFIN := Aside0.mk hfin
    have HEND : Aside0 (searchV (knownV (outs a1 l0)) a2_1 (wrap64 (a2_0 * wt)) (Go.Lib.compact (isort (energiesQ a1 l0))) 0 0 = fin) := ⟨by rw [hL, hrhs]; exact hfin⟩
    clear hL hfin hle
    obtain ⟨Ao, co, eo⟩ := Kd.R_slice HO11.out
    subst eo
    go_wp2
    go_loopw [13, 14, 57] (fun v13 v14 v57 wr => ∃ (k : Nat) (b m : Int), v57 = .int .i64 (k : Int) ∧ v14 = .int .i64 b ∧ v13 = .int .i64 m ∧ Aside0 (k ≤ L.length) ∧ Aside0 (searchV (knownV (outs a1 l0)) a2_1 rhs (L.drop k) b m = fin) ∧ Aside0 (Below W.heap.size W wr) ∧ Aside0 ((Kd.int .i64).R 3 wr W.heap.size (fun _ => True) (.slice Ao L.length co) L)) (fun _ _ v57 _ => L.length - (intOf v57).toNat)
    ·exact ⟨0, 0, 0, rfl, rfl, rfl, ⟨Nat.zero_le _⟩, HFIN, HB11, HO11⟩
    ·obtain ⟨kq, b, m, rfl, rfl, rfl, HKQ, HS, HB, HO⟩ := hrel
     by_cases hk : kq < L.length
     ·have c0b : decide ((kq : Int) < (L.length : Int)) = true := decide_eq_true (by omega)
      obtain ⟨ad, rfl, hx⟩ := Kd.at_int (Kd.R_reads' HO.out).2.2 (kq : Int) (by omega) (by omega)
      have hrd : rd L (kq : Int) = L[kq] := by simp [rd, List.getD_eq_getElem?_getD, List.getElem?_eq_getElem hk]
      rw [hrd, Int.toNat_natCast] at hx
      obtain ⟨e, he⟩ : ∃ e, L[kq] = e := ⟨_, rfl⟩
      have hew : W64 e := HLW.out e (by rw [← he]; exact List.getElem_mem hk)
      have hsc := searchV_cons (knownV (outs a1 l0)) a2_1 rhs L kq hk b m e he
      rw [HS.out] at hsc
      rw [he] at hx
      have HI2 := Aside0.mk (HI.out.later hMs HB.out)
      obtain ⟨Dm, hD1, hD2⟩ := HI2.out.map
      have HD1 := Aside0.mk (hD1 e hew)
      have HD2 := Aside0.mk hD2
      have HEW := Aside0.mk hew
      have HSC := Aside0.mk hsc
      have HKK := Aside0.mk hk
      have hcx : wr.cell? ⟨M + 1, 0, none⟩ = some (.map (some M)) := (blk_cell HI2.out.kx 0).trans rfl
      have b2 : ((kq : Int) < (L.length : Int)) = True := eq_true (by omega)
      have b3 : (0 ≤ (kq : Int)) = True := eq_true (by omega)
      have hwr : wrap64 ((kq : Int) + 1) = ((kq + 1 : Nat) : Int) := by rw [w64 _ (by omega)]; omega
      have HWR := Aside0.mk hwr
      clear hrd he hsc hD1 hD2 hew hwr hk
      go_wp2_with (at_lookup; refine wpList_lookup_own_int (H := Unit) _ rfl _ _ 175 rfl 3 3 .i64 (Maps.int_keyed Tryz.underlying3) Tryz.underlying175 Tryz.underlying3 (zero3 _) M _ Dm rfl HD2.out _ (.int .i64 e) rfl (Maps.keyOf_int_mk Tryz.underlying3 (wf64 HEW.out)) ?_; intro c hat hwc)
      have hcv : c = knownV (outs a1 l0) e := by
       have h1 := HD1.out
       rw [hat] at h1
       cases h1
       rfl
      clear hat hwc hcx
      rw [← hcv] at HSC
      clear hcv
      refine start_ (n := 10) (S := fun w' => w'.cell? ⟨w.heap.size + 1, 0, none⟩ = some (.int .i64 a2_0) ∧ w'.cell? ⟨w.heap.size + 1, 1, none⟩ = some (.int .i64 a2_1)) (ds := []) #[false, false, false, false, false, false, false, false, false, false] (by kernel_rfl) rfl rfl ⟨(blk_cell HI2.out.k1 0).trans rfl, (blk_cell HI2.out.k1 1).trans rfl⟩ (fun hHeld => ?_)
      have hbd : Below wr.heap.size wr wr.drew := below_drew1 (Below.refl _ _)
      have HID := Aside0.mk (HI2.out.later hMs hbd)
      have HBD := Aside0.mk (below_step HB.out hbd)
      have HOD := Aside0.mk (Kd.R_below HO.out hbd)
      clear hbd hx
      generalize wr.drew = wd at *
      refine pu_ 0 67 (h := ?_)
      refine pu_ 1 68 (h := ?_)
      refine ta_ 2 69 hHeld (h := ?_)
      refine pu_ 3 70 (h := ?_)
      refine pu_ 4 71 (h := ?_)
      refine ta_ 5 72 hHeld (h := ?_)
      refine pu_ 6 73 (h := ?_)
      refine ca_ 7 74 (f := 97) (fn := Tryz.f97) #[.slice A0 l0.length c0] (hf := Tryz.func97) (h := ?_)
      refine (market_weight.calls k A0 c0 l0 wt _ (Kd.C_below HR0.out HID.out.below) HC0.out HW.out).mono ?_
      rintro e' we ⟨rfl, hb⟩
      have HIE := Aside0.mk (HID.out.later hMs hb)
      have HBE := Aside0.mk (below_step HBD.out hb)
      have HOE := Aside0.mk (Kd.R_below HOD.out hb)
      clear hb hHeld
      refine ⟨_, rfl, ⟨(blk_cell HIE.out.k1 0).trans rfl, (blk_cell HIE.out.k1 1).trans rfl⟩, fun hHeld => ⟨_, rfl, ?_⟩⟩
      have hrh : wrap64 (a2_0 * wt) = rhs := HRH.out
      refine pu_ 8 75 (h := ?_)
      refine pu_ 9 76 (h := ?_)
      refine done_ (by decide +kernel) ?_
      clear hHeld hrh
      by_cases hge : rhs ≤ wrap64 (wrap64 (b + c) * a2_1)
      ·have d0 : decide (rhs ≤ wrap64 (wrap64 (b + c) * a2_1)) = true := decide_eq_true hge
       have hef : fin = e := by
        have h1 := HSC.out
        rw [if_pos hge] at h1
        exact h1
       have HEF := Aside0.mk hef
       clear hef
       go_wp2
       refine ⟨by simp, .inl ⟨_, _, rfl, run_takeDeferred ((HBE.out.block _ (blk_lt HK.out)).trans HK.out), ?_⟩⟩
       refine ⟨_, results_tmp2 rfl _ _ _, ?_, HIE.out.below.trans (belowK_b (w := w) (Nat.le_refl _) we D _ _ HDs2.out ((HBE.out.block _ (blk_lt HK.out)).trans HK.out) rfl rfl)⟩
       rw [HEND.out, HEF.out]
       rfl
      ·have d0 : decide (rhs ≤ wrap64 (wrap64 (b + c) * a2_1)) = false := decide_eq_false hge
       have hef : searchV (knownV (outs a1 l0)) a2_1 rhs (L.drop (kq + 1)) (wrap64 (b + c)) e = fin := by
        have h1 := HSC.out
        rw [if_neg hge] at h1
        exact h1.symm
       have HEF := Aside0.mk hef
       have HK1 : Aside0 (kq + 1 ≤ L.length) := ⟨by have := HKK.out; omega⟩
       have hlt' : wrap64 (wrap64 (b + c) * a2_1) < rhs := by omega
       clear hef hge
       go_wp2
       go_roundw
       case rel => exact ⟨kq + 1, wrap64 (b + c), e, by rw [← HWR.out], rfl, rfl, HK1, HEF, HBE, HOE⟩
       case measure =>
        have h1 := HKK.out
        rw [HWR.out]
        clear HWR
        simp [intOf]
        omega
     ·have c0b : decide ((kq : Int) < (L.length : Int)) = false := decide_eq_false (by omega)
      have hef : fin = m := by
       have h1 := HS.out
       rw [List.drop_of_length_le (by omega)] at h1
       exact h1.symm
      have HEF := Aside0.mk hef
      have HI2 := Aside0.mk (HI.out.later hMs HB.out)
      clear hef
      go_wp2
      refine ⟨by simp, .inl ⟨_, _, rfl, run_takeDeferred ((HB.out.block _ (blk_lt HK.out)).trans HK.out), ?_⟩⟩
      refine ⟨_, results_tmp2 rfl _ _ _, ?_, HI2.out.below.trans (belowK_b (w := w) (Nat.le_refl _) wr D _ _ HDs2.out ((HB.out.block _ (blk_lt HK.out)).trans HK.out) rfl rfl)⟩
      rw [HEND.out, HEF.out]
      rfl
   ·rintro D c pre W _ _ h _
    exact h.elim
end Go.Proofs.YtfdlhbdcejlopaaGreatDoor.B
namespace Go.Proofs
open Go.Shelf
def Tryz.lays169_ren : Go.Shelf.Ren := ⟨fun | 169 => 137 | n => n, fun | 70 => 197 | 9 => 9 | 0 => 0 | 72 => 199 | 37 => 123 | 127 => 234 | 3 => 3 | 5 => 5 | n => n, fun | n => n⟩
theorem Tryz.lays169 : Go.Proofs.Lays.n169 Tryz.prog Tryz.lays169_ren := {
 mixed := by kernel_rfl
 f169 := Tryz.func137.trans (congrArg some (by kernel_rfl))
 t0 := Tryz.underlying0
 a0 := Tryz.isAgg0
 z0 := Tryz.sizeOf0
 v0 := Tryz.zeroValue0
 t3 := Tryz.underlying3
 a3 := Tryz.isAgg3
 z3 := Tryz.sizeOf3
 v3 := Tryz.zeroValue3
 t9 := Tryz.underlying9
 a9 := Tryz.isAgg9
 z9 := Tryz.sizeOf9
 v9 := Tryz.zeroValue9
 t37 := Tryz.underlying123
 a37 := Tryz.isAgg123
 z37 := Tryz.sizeOf123
 v37 := Tryz.zeroValue123
 t70 := Tryz.underlying197
 a70 := Tryz.isAgg197
 z70 := Tryz.sizeOf197
 v70 := Tryz.zeroValue197
 t72 := Tryz.underlying199
 a72 := Tryz.isAgg199
 z72 := Tryz.sizeOf199
 v72 := Tryz.zeroValue199
 t127 := Tryz.underlying234
 a127 := Tryz.isAgg234
 z127 := Tryz.sizeOf234
 v127 := Tryz.zeroValue234 }
theorem Tryz.Builder_Extra_169 : Builder.Extra Tryz.prog Tryz.lays169_ren := {
 sizeBuilder := by kernel_rfl
 liesBuilder := by kernel_rfl
 t5 := Tryz.underlying5
 a5 := Tryz.isAgg5
 z5 := Tryz.sizeOf5
 v5 := Tryz.zeroValue5
 infoByte := by kernel_rfl
 cellsByte := by kernel_rfl
 sizeByte := by kernel_rfl
 neB5 := by decide }
open Go.RowKit in
/-- (*strings.Builder).String: "String returns the accumulated string.": WHATEVER THE BUILDER HOLDS. (LAID: no walk: one application.) -/
theorem Tryz.Builder_String_any (B b : Nat) (l : List UInt8) (w : World) (h : Lib.IsBuilder 199 5 B b (Lib.byteCells l) w) (hBw : B ≤ w.heap.size) :
  Calls Tryz.prog 137 #[.pointer (some ⟨b, 0, none⟩)] w fun e w' => e = .returned (.string ⟨l.toArray⟩) ∧ Below B w w' := Any.Builder_String_any Tryz.lays169 Tryz.Builder_Extra_169 B b l w h hBw
def Tryz.lays156_ren : Go.Shelf.Ren := ⟨fun | 156 => 134 | 165 => 156 | 166 => 133 | 169 => 137 | 240 => 155 | 241 => 180 | 276 => 179 | 277 => 200 | n => n, fun | 31 => 205 | 9 => 9 | 3 => 3 | 4 => 4 | 0 => 0 | 20 => 20 | 72 => 199 | 76 => 202 | 70 => 197 | 37 => 123 | 75 => 201 | 127 => 234 | 164 => 255 | 5 => 5 | 80 => 208 | n => n, fun | n => n⟩
theorem Tryz.lays156 : Go.Proofs.Lays.n156 Tryz.prog Tryz.lays156_ren := {
 mixed := by kernel_rfl
 f156 := Tryz.func134.trans (congrArg some (by kernel_rfl))
 f165 := Tryz.func156.trans (congrArg some (by kernel_rfl))
 f166 := Tryz.func133.trans (congrArg some (by kernel_rfl))
 f169 := Tryz.func137.trans (congrArg some (by kernel_rfl))
 f240 := Tryz.func155.trans (congrArg some (by kernel_rfl))
 f241 := Tryz.func180.trans (congrArg some (by kernel_rfl))
 f276 := Tryz.func179.trans (congrArg some (by kernel_rfl))
 f277 := Tryz.func200.trans (congrArg some (by kernel_rfl))
 t0 := Tryz.underlying0
 a0 := Tryz.isAgg0
 z0 := Tryz.sizeOf0
 v0 := Tryz.zeroValue0
 t3 := Tryz.underlying3
 a3 := Tryz.isAgg3
 z3 := Tryz.sizeOf3
 v3 := Tryz.zeroValue3
 t4 := Tryz.underlying4
 a4 := Tryz.isAgg4
 z4 := Tryz.sizeOf4
 v4 := Tryz.zeroValue4
 t9 := Tryz.underlying9
 a9 := Tryz.isAgg9
 z9 := Tryz.sizeOf9
 v9 := Tryz.zeroValue9
 t20 := Tryz.underlying20
 a20 := Tryz.isAgg20
 z20 := Tryz.sizeOf20
 v20 := Tryz.zeroValue20
 t31 := Tryz.underlying205
 a31 := Tryz.isAgg205
 z31 := Tryz.sizeOf205
 v31 := Tryz.zeroValue205
 t37 := Tryz.underlying123
 a37 := Tryz.isAgg123
 z37 := Tryz.sizeOf123
 v37 := Tryz.zeroValue123
 t70 := Tryz.underlying197
 a70 := Tryz.isAgg197
 z70 := Tryz.sizeOf197
 v70 := Tryz.zeroValue197
 t72 := Tryz.underlying199
 a72 := Tryz.isAgg199
 z72 := Tryz.sizeOf199
 v72 := Tryz.zeroValue199
 t75 := Tryz.underlying201
 a75 := Tryz.isAgg201
 z75 := Tryz.sizeOf201
 v75 := Tryz.zeroValue201
 t76 := Tryz.underlying202
 a76 := Tryz.isAgg202
 z76 := Tryz.sizeOf202
 v76 := Tryz.zeroValue202
 t127 := Tryz.underlying234
 a127 := Tryz.isAgg234
 z127 := Tryz.sizeOf234
 v127 := Tryz.zeroValue234
 t164 := Tryz.underlying255
 a164 := Tryz.isAgg255
 z164 := Tryz.sizeOf255
 v164 := Tryz.zeroValue255 }
theorem Tryz.Builder_Extra_156 : Builder.Extra Tryz.prog Tryz.lays156_ren := {
 sizeBuilder := by kernel_rfl
 liesBuilder := by kernel_rfl
 t5 := Tryz.underlying5
 a5 := Tryz.isAgg5
 z5 := Tryz.sizeOf5
 v5 := Tryz.zeroValue5
 infoByte := by kernel_rfl
 cellsByte := by kernel_rfl
 sizeByte := by kernel_rfl
 neB5 := by decide }
open Go.RowKit in
/-- strings.Join: "Join concatenates the elements of its first argument to create a single string. The separator string sep is placed between elements in the resulting string.": HOWEVER MANY ELEMENTS. Below the heap's end the world is as_ it was. (LAID: no walk: one application.) -/
theorem Tryz.strings_Join (bk o c : Nat) (xs : List ByteArray) (sep : ByteArray) (w : World) (hcells : ∀ (j : Nat) x, xs[j]? = some x → w.cell? ⟨bk, o + j, none⟩ = some (.string x)) (hbk : bk < w.heap.size) (hN : xs.length ≤ 140737488355328) (hcap : xs.length ≤ c) (hlen : (Lib.join (xs.map (·.data.toList)) sep.data.toList).length ≤ 140737488355328) :
  Calls Tryz.prog 134 #[.slice (some ⟨bk, o, none⟩) xs.length c, .string sep] w fun e w' => e = .returned (.string ⟨(Lib.join (xs.map (·.data.toList)) sep.data.toList).toArray⟩) ∧ Below w.heap.size w w' := Any.strings_Join Tryz.lays156 Tryz.Builder_Extra_156 bk o c xs sep w hcells hbk hN hcap hlen
open Go.RowKit in
/-- A write into the builder (out of Join's closure, which holds it). -/
theorem Tryz.Builder_WriteString (B b : Nat) (bs : List Value) (s : ByteArray) (w : World) (h : Lib.IsBuilder 199 5 B b bs w) (hlen : bs.length + s.size ≤ 140737488355328) (hBw : B ≤ w.heap.size) :
  Calls Tryz.prog 133 #[.pointer (some ⟨b, 0, none⟩), .string s] w fun e w' => e = .returned (.tuple #[.int .i64 s.size, .nilIface]) ∧ (Lib.BuilderAt 199 5 B b (.pointer (some ⟨b, 0, none⟩)) (bs ++ Lib.strCells s) w' ∧ Below B w w') :=
 Any.Builder_WriteString (ρ := Tryz.lays156_ren) { Tryz.lays156 with } Tryz.Builder_Extra_156 B b bs s w h hlen hBw
end Go.Proofs
namespace Go.Proofs
open Go.Shelf
def Tryz.lays171_ren : Go.Shelf.Ren := ⟨fun | 171 => 136 | 243 => 157 | 246 => 181 | 283 => 201 | 284 => 202 | 285 => 203 | 286 => 204 | 129 => 177 | 317 => 213 | 318 => 214 | 319 => 215 | 320 => 216 | 337 => 222 | 338 => 223 | n => n, fun | 3 => 3 | 9 => 9 | 2 => 2 | 4 => 4 | 171 => 273 | 0 => 0 | 53 => 253 | 37 => 123 | 5 => 5 | 173 => 275 | 212 => 285 | 51 => 251 | 20 => 20 | 213 => 286 | 46 => 227 | 232 => 291 | 233 => 292 | n => n, fun | 17 => 1 | 18 => 2 | 19 => 3 | n => n⟩
theorem Tryz.lays171 : Go.Proofs.Lays.n171 Tryz.prog Tryz.lays171_ren := {
 mixed := by kernel_rfl
 f129 := Tryz.func177.trans (congrArg some (by kernel_rfl))
 f171 := Tryz.func136.trans (congrArg some (by kernel_rfl))
 f243 := Tryz.func157.trans (congrArg some (by kernel_rfl))
 f246 := Tryz.func181.trans (congrArg some (by kernel_rfl))
 f283 := Tryz.func201.trans (congrArg some (by kernel_rfl))
 f284 := Tryz.func202.trans (congrArg some (by kernel_rfl))
 f285 := Tryz.func203.trans (congrArg some (by kernel_rfl))
 f286 := Tryz.func204.trans (congrArg some (by kernel_rfl))
 f317 := Tryz.func213.trans (congrArg some (by kernel_rfl))
 f318 := Tryz.func214.trans (congrArg some (by kernel_rfl))
 f319 := Tryz.func215.trans (congrArg some (by kernel_rfl))
 f320 := Tryz.func216.trans (congrArg some (by kernel_rfl))
 f337 := Tryz.func222.trans (congrArg some (by kernel_rfl))
 f338 := Tryz.func223.trans (congrArg some (by kernel_rfl))
 t0 := Tryz.underlying0
 a0 := Tryz.isAgg0
 z0 := Tryz.sizeOf0
 v0 := Tryz.zeroValue0
 t2 := Tryz.underlying2
 a2 := Tryz.isAgg2
 z2 := Tryz.sizeOf2
 v2 := Tryz.zeroValue2
 t3 := Tryz.underlying3
 a3 := Tryz.isAgg3
 z3 := Tryz.sizeOf3
 v3 := Tryz.zeroValue3
 t4 := Tryz.underlying4
 a4 := Tryz.isAgg4
 z4 := Tryz.sizeOf4
 v4 := Tryz.zeroValue4
 t5 := Tryz.underlying5
 a5 := Tryz.isAgg5
 z5 := Tryz.sizeOf5
 v5 := Tryz.zeroValue5
 t9 := Tryz.underlying9
 a9 := Tryz.isAgg9
 z9 := Tryz.sizeOf9
 v9 := Tryz.zeroValue9
 t20 := Tryz.underlying20
 a20 := Tryz.isAgg20
 z20 := Tryz.sizeOf20
 v20 := Tryz.zeroValue20
 t37 := Tryz.underlying123
 a37 := Tryz.isAgg123
 z37 := Tryz.sizeOf123
 v37 := Tryz.zeroValue123
 t46 := Tryz.underlying227
 a46 := Tryz.isAgg227
 z46 := Tryz.sizeOf227
 v46 := Tryz.zeroValue227
 t51 := Tryz.underlying251
 a51 := Tryz.isAgg251
 z51 := Tryz.sizeOf251
 v51 := Tryz.zeroValue251
 t53 := Tryz.underlying253
 a53 := Tryz.isAgg253
 z53 := Tryz.sizeOf253
 v53 := Tryz.zeroValue253
 t171 := Tryz.underlying273
 a171 := Tryz.isAgg273
 z171 := Tryz.sizeOf273
 v171 := Tryz.zeroValue273
 t173 := Tryz.underlying275
 a173 := Tryz.isAgg275
 z173 := Tryz.sizeOf275
 v173 := Tryz.zeroValue275
 t212 := Tryz.underlying285
 a212 := Tryz.isAgg285
 z212 := Tryz.sizeOf285
 v212 := Tryz.zeroValue285
 t213 := Tryz.underlying286
 a213 := Tryz.isAgg286
 z213 := Tryz.sizeOf286
 t232 := Tryz.underlying291
 a232 := Tryz.isAgg291
 z232 := Tryz.sizeOf291
 v232 := Tryz.zeroValue291
 t233 := Tryz.underlying292
 a233 := Tryz.isAgg292
 z233 := Tryz.sizeOf292
 v233 := Tryz.zeroValue292
 g17 := by kernel_rfl
 g18 := by kernel_rfl
 g19 := by kernel_rfl }
open Go.RowKit Go.Sort Go.Lib in
/-- THE ROAD WITHOUT THE TABLE: 0 <= i < 100: NO PREMISE ON THE WORLD, AND THE WORLD IS AS IT WAS: a row that keeps its argument in that range need list no table ('laid = []'). (LAID: no walk: one application.) -/
theorem Tryz.strconv_Itoa_small (i : Nat) (hi : i < 100) (w : World) :
  Calls Tryz.prog 136 #[.int .i64 i] w fun e w' => e = .returned (.string ⟨(Lib.decDigits i).toArray⟩) ∧ w' = w := Any.strconv_Itoa_small Tryz.lays171 i hi w
end Go.Proofs
namespace Go.Proofs.YtfdlhbdcejlopaaGreatDoor.B
open Go.RowKit Go.Shelf Go.Proofs.YtfdlhbdcejlopaaGreatDoorW.PrintWords Go.Proofs.YtfdlhbdcejlopaaGreatDoorW.PrintLast Go.Proofs.YtfdlhbdcejlopaaGreatDoorW.PrintMore
set_option linter.unusedVariables false
set_option linter.unusedSimpArgs false
def itoaB (n : Int) : ByteArray := ⟨(Lib.itoa n).toArray⟩
def ItoaAt (w : World) (n : Int) : Prop := ∀ w', Below w.heap.size w w' → Calls Tryz.prog 136 #[.int .i64 n] w' fun e w'' => e = .returned (.string (itoaB n)) ∧ Below w'.heap.size w' w''
theorem ItoaAt.below {w w1 : World} {n : Int} (h : ItoaAt w n) (hb : Below w.heap.size w w1) : ItoaAt w1 n := fun w' hb' => h w' (below_step hb hb')
theorem itoaAt_small (w : World) (n : Int) (h0 : 0 ≤ n) (h1 : n < 100) : ItoaAt w n := fun w' hb => by
 obtain ⟨m, rfl⟩ := Int.eq_ofNat_of_zero_le h0
 refine (Tryz.strconv_Itoa_small m (by omega) w').mono ?_
 rintro e w'' ⟨rfl, rfl⟩
 refine ⟨?_, Below.refl _ _⟩
 unfold itoaB Lib.itoa
 rw [if_neg (by omega)]
 rfl
set_option maxRecDepth 100000 in
set_option maxHeartbeats 1000000 in
theorem mappedItoa.calls (A0 : Option Addr) (c0 : Nat) (l0 : List Int) (w : World) (hr0 : Kd.C (Kd.int .i64) w A0 l0.length l0) (hc0 : l0.length ≤ c0) (hl : l0.length ≤ 1000) (hI : ∀ n ∈ l0, ItoaAt w n) :
  Calls Tryz.prog 135 #[.slice A0 l0.length c0, .func (.func 136) #[] #[]] w fun e w' => ∃ v0_ : Value, e = .returned v0_ ∧ Kd.R Kd.string 9 w' w.heap.size (fun _ => True) v0_ (l0.map itoaB) ∧ Below w.heap.size w w' := by
 have HR0 := Aside0.mk hr0
 have HI := Aside0.mk hI
 have HL := Aside0.mk hl
 clear hr0 hI hl
 go_enter Tryz.func135, Tryz.ntmps135
 go_wp2
 go_loopw [5, 10] (fun vo vi wr => ∃ k : Nat, k ≤ l0.length ∧ vi = .int .i64 (k : Int) ∧ Aside0 (Below w.heap.size w wr) ∧ Aside0 (Kd.R Kd.string 9 wr w.heap.size (fun _ => True) vo ((l0.take k).map itoaB))) (fun _ vi _ => l0.length - (intOf vi).toNat)
 case atStart => exact ⟨0, by omega, rfl, ⟨Below.refl _ _⟩, ⟨Kd.R_nil _ _ _ _ _⟩⟩
 case round =>
  obtain ⟨k, hk, rfl, HB, HO⟩ := hrel
  by_cases hlt : k < l0.length
  ·obtain ⟨ad, e1, hx⟩ := Kd.at_int (Kd.C_below HR0.out HB.out) (k : Int) (by omega) (by omega)
   subst e1
   have hrd : rd l0 (k : Int) = l0[k] := by simp [rd, List.getD_eq_getElem?_getD, List.getElem?_eq_getElem hlt]
   rw [hrd, Int.toNat_natCast] at hx
   have hmem : l0[k] ∈ l0 := List.getElem_mem hlt
   obtain ⟨x, hxe⟩ : ∃ x, l0[k] = x := ⟨_, rfl⟩
   rw [hxe] at hx hmem
   have HT : Aside0 ((l0.take (k + 1)).map itoaB = (l0.take k).map itoaB ++ [itoaB x]) := ⟨by rw [List.take_succ_eq_append_getElem hlt, List.map_append, hxe]; rfl⟩
   have HM := Aside0.mk ((HI.out x hmem).below HB.out)
   have hw1 : wrap64 ((k : Int) + 1) = (k : Int) + 1 := w64 _ (by have := HL.out; omega)
   clear hrd hmem hxe
   go_wp2_with (first
    | ((with_reducible refine gate_calleeT (t := 15) rfl ?_); refine goesT_ (some 17) rfl rfl Tryz.func136 (by kernel_rfl) rfl #[.int .i64 x] rfl rfl (by (try simp only [List.map_toArray, List.map_cons, List.map_nil]); first | done | rfl) ?_; refine (HM.out wr (Below.refl _ _)).mono ?_; rintro e w1 ⟨rfl, hb⟩; refine ⟨_, rfl, ?_⟩; have HB1 := Aside0.mk (below_step HB.out hb); have HO1 := Aside0.mk (Kd.R_below HO.out hb); clear hb HB HO hx)
    | ((with_reducible refine gate_builtin (b := .append) (xs := #[.tmp 14, .tmp 18]) rfl ?_); at_builtin; refine Kd.R_append Kd.string (w0 := w) w.heap.size rfl (.tmp 14) (.tmp 18) 205 9 (.string ⟨#[]⟩) 16 rfl Tryz.underlying205 info9 rfl (by decide) (by omega) u5 ((l0.take k).map itoaB) (itoaB x) [.string (itoaB x)] (fun _ => True) (fun _ => False) rfl rfl rfl (fun _ hk => hk.elim) (fun _ _ => trivial) HO1.out HB1.out HB1.out.size ?aL ?_; (case aL => have := HL.out; simp; omega); intro v2 w2 ho2 hb2 _ _; have HO2 := Aside0.mk ho2; have HB2 := Aside0.mk hb2; clear ho2 hb2 HO1 HB1))
   go_roundw
   case rel => exact ⟨k + 1, by omega, by go_num, HB2, ⟨by rw [HT.out]; exact HO2.out⟩⟩
   case measure =>
    try rw [hw1]
    clear hw1
    simp [intOf]
    omega
  ·have hke : Aside0 (l0.take k = l0) := ⟨List.take_of_length_le (by omega)⟩
   go_wp2
   go_ret
   exact ⟨_, rfl, by have := HO.out; rw [hke.out] at this; exact this, HB.out⟩
def nums5 (q : S86) : List Int := [q.f0, q.f1, q.f2, q.f3, q.f4]
def lineV (q : S86) : List UInt8 := Lib.join ((nums5 q).map fun n => Lib.itoa n) [32] ++ [10]
def printV (l : List S86) : List UInt8 := l.flatMap lineV
def small5 (q : S86) : Bool := (nums5 q).all fun n => decide (0 ≤ n ∧ n ≤ 6400000)
def market_Print.f (k : Nat) (l0 : List S86) : Option (ByteArray × Int) :=
 (market_Quarter__market_CheckQuarter.f k l0 ()).bind fun e => if e = 0 then (if l0.length ≤ 96 ∧ l0.all small5 = true then some (⟨(printV l0).toArray⟩, 0) else none) else some (⟨#[]⟩, e)
theorem decDigits_len : ∀ (d u : Nat), u < 10 ^ (d + 1) → (Lib.decDigits u).length ≤ d + 1
 | 0, u, h => by
  rw [Lib.decDigits, dif_pos (by omega)]
  simp
 | d + 1, u, h => by
  rw [Lib.decDigits]
  split
  ·simp
  ·rw [List.length_append]
   have := decDigits_len d (u / 10) (by rw [Nat.pow_succ] at h; omega)
   simp
   omega
theorem itoa_len (n : Int) (h0 : 0 ≤ n) (h1 : n ≤ 6400000) : (Lib.itoa n).length ≤ 7 := by
 unfold Lib.itoa
 rw [if_neg (by omega)]
 exact decDigits_len 6 _ (by omega)
theorem join5_len (a b c d e : List UInt8) : (Lib.join [a, b, c, d, e] [32]).length = a.length + b.length + c.length + d.length + e.length + 4 := by
 simp [Lib.join, List.intercalate]
 omega
theorem small5_itoa {q : S86} (h : small5 q = true) : ∀ n ∈ nums5 q, (Lib.itoa n).length ≤ 7 := fun n hn => by
 have := List.all_eq_true.1 h n hn
 simp at this
 exact itoa_len n this.1 this.2
theorem lineV_len {q : S86} (h : small5 q = true) : (lineV q).length ≤ 40 := by
 have hs := small5_itoa h
 unfold lineV nums5
 rw [List.length_append]
 simp only [List.map_cons, List.map_nil, join5_len]
 have h0 := hs q.f0 (by simp [nums5])
 have h1 := hs q.f1 (by simp [nums5])
 have h2 := hs q.f2 (by simp [nums5])
 have h3 := hs q.f3 (by simp [nums5])
 have h4 := hs q.f4 (by simp [nums5])
 simp
 omega
theorem printV_len : ∀ (l : List S86), l.all small5 = true → (printV l).length ≤ 40 * l.length
 | [], _ => by simp [printV]
 | q :: l, h => by
  rw [List.all_cons, Bool.and_eq_true] at h
  have h1 := lineV_len h.1
  have h2 := printV_len l h.2
  have e : printV (q :: l) = lineV q ++ printV l := rfl
  rw [e, List.length_append, List.length_cons]
  omega
theorem printV_snoc (l : List S86) (q : S86) : printV (l ++ [q]) = printV l ++ lineV q := by
 unfold printV
 simp
theorem BuilderAt_below {T e : TypeId} {B b : Nat} {p : Value} {bs : List Value} {w w' : World} (h : Lib.BuilderAt T e B b p bs w) (hb : Below w.heap.size w w') : Lib.BuilderAt T e B b p bs w' := by
 obtain ⟨h1, v, h2, h3, h4⟩ := h
 refine ⟨h1, v, (hb.block _ (Array.getElem?_eq_some_iff.1 h2).1).trans h2, h3.kept (grown_of_below hb none) ?_, h4⟩
 rcases hv : v.ownBlock with _ | k
 ·exact .inl rfl
 ·exact .inr (by simp)
theorem IsBuilder_below {T e : TypeId} {B b : Nat} {bs : List Value} {w w' : World} (h : Lib.IsBuilder T e B b bs w) (hb : Below w.heap.size w w') : Lib.IsBuilder T e B b bs w' :=
 h.imp (fun h => BuilderAt_below h hb) (fun h => BuilderAt_below h hb)
set_option maxRecDepth 100000 in
set_option maxHeartbeats 1000000 in
theorem market_Print.calls (k : Nat) (A0 : Option Addr) (c0 : Nat) (l0 : List S86) (r1 : ByteArray) (r2 : Int) (w : World) (hr0 : Kd.C k86 w A0 l0.length l0) (hc0 : l0.length ≤ c0) (hI : ∀ q ∈ l0, ∀ n ∈ nums5 q, ItoaAt w n) (h : market_Print.f k l0 = some (r1, r2)) :
  Calls Tryz.prog 75 #[.slice A0 l0.length c0] w fun e w' => e = .returned (.tuple #[.string r1, .int .i64 r2]) ∧ Below w.heap.size w w' := by
 unfold market_Print.f at h
 obtain ⟨t1, h1, h⟩ := Option.bind_eq_some_iff.mp h
 have H1 := Aside0.mk h1
 have HR := Aside0.mk hr0
 have HC := Aside0.mk hc0
 have HI := Aside0.mk hI
 clear h1 hr0 hI
 have hu86 := Tryz.underlying86
 go_enter Tryz.func75, Tryz.ntmps75
 go_wp2_with fail
 refine (market_Quarter__market_CheckQuarter.calls k A0 c0 l0 () t1 _ HR.out HC.out H1.out).mono ?_
 rintro e w1 ⟨rfl, hb⟩
 have HB := Aside0.mk hb
 clear hb
 by_cases c1 : t1 = 0
 case neg =>
  have b0 : (t1 == 0) = false := beq_eq_false_iff_ne.mpr c1
  have b1 : (t1 != 0) = true := bne_iff_ne.mpr c1
  rw [if_neg c1] at h
  cases h
  clear c1
  go_wp2
  go_ret2
  exact ⟨rfl, HB.out⟩
 case pos =>
  have b0 : (t1 == 0) = true := beq_iff_eq.mpr c1
  have b1 : (t1 != 0) = false := bne_eq_false_iff_eq.mpr c1
  rw [if_pos c1] at h
  split at h
  case isFalse => cases h
  rename_i hgd
  cases h
  clear c1
  obtain ⟨g1, g2⟩ := hgd
  have G2 := Aside0.mk g2
  clear g2
  go_wp2
  have HFB : Aside0 (Lib.IsBuilder 199 5 w1.heap.size w1.heap.size (Lib.byteCells (printV (l0.take 0))) (w1.alloc (.cells #[.pointer none, .slice none 0 0] 199))) := ⟨Lib.fresh_isBuilder 199 5 w1⟩
  have HB0 : Aside0 (Below w.heap.size w (w1.alloc (.cells #[.pointer none, .slice none 0 0] 199))) := ⟨below_alloc HB.out _⟩
  have HB1 := HB
  go_loopw [16] (fun vi wr => ∃ k : Nat, k ≤ l0.length ∧ vi = .int .i64 (k : Int) ∧ Aside0 (Below w.heap.size w wr) ∧ Aside0 (w1.heap.size ≤ wr.heap.size) ∧ Aside0 (Lib.IsBuilder 199 5 w1.heap.size w1.heap.size (Lib.byteCells (printV (l0.take k))) wr)) (fun vi _ => l0.length - (intOf vi).toNat)
  case atStart => exact ⟨0, by omega, rfl, HB0, ⟨by simp⟩, HFB⟩
  case round =>
   obtain ⟨k, hk, rfl, HB, HS, HO⟩ := hrel
   by_cases hlt : k < l0.length
   ·obtain ⟨ad, e1, hx0, hx1, hx2, hx3, hx4⟩ := at_T86 (Kd.C_below HR.out HB.out) (k : Int) (by omega) (by omega)
    subst e1
    have hrd : rd_T86 l0 (k : Int) = l0[k] := by simp [rd_T86, List.getD_eq_getElem?_getD, List.getElem?_eq_getElem hlt]
    rw [hrd, Int.toNat_natCast] at hx0 hx1 hx2 hx3 hx4
    have hmem : l0[k] ∈ l0 := List.getElem_mem hlt
    have hsn : printV (l0.take (k + 1)) = printV (l0.take k) ++ lineV l0[k] := by rw [List.take_succ_eq_append_getElem hlt, printV_snoc]
    obtain ⟨x, hxe⟩ : ∃ x, l0[k] = x := ⟨_, rfl⟩
    rw [hxe] at hx0 hx1 hx2 hx3 hx4 hmem hsn
    have HSN := Aside0.mk hsn
    have HM := Aside0.mk hmem
    have hs5 : small5 x = true := List.all_eq_true.1 G2.out x hmem
    have HS5 := Aside0.mk hs5
    have hw1 : wrap64 ((k : Int) + 1) = (k : Int) + 1 := w64 _ (by omega)
    clear hrd hmem hxe hsn hs5
    go_wp2_with fail
    refine (market_Quarter_numbers.calls x.f0 x.f1 x.f2 x.f3 x.f4 x.f0 x.f1 x.f2 x.f3 x.f4 _ rfl).mono ?_
    rintro e w2 ⟨rfl, hb⟩
    have HB2 : Aside0 (Below wr.heap.size wr w2) := ⟨(below_alloc (Below.refl _ _) _).trans (hb.mono (by simp))⟩
    clear hb hx0 hx1 hx2 hx3 hx4
    go_wp2_with fail
    have HB3 : Aside0 (Below wr.heap.size wr (w2.alloc (.cells #[.int .i64 x.f0, .int .i64 x.f1, .int .i64 x.f2, .int .i64 x.f3, .int .i64 x.f4] 183))) := ⟨below_alloc HB2.out _⟩
    have hlit : (w2.alloc (.cells #[.int .i64 x.f0, .int .i64 x.f1, .int .i64 x.f2, .int .i64 x.f3, .int .i64 x.f4] 183)).heap[w2.heap.size]? = some (.cells ((nums5 x).map (Value.int .i64)).toArray 183 (0, 0)) := blk_new w2 _
    refine (mappedItoa.calls (some ⟨w2.heap.size, 0, none⟩) 5 (nums5 x) _ (C_lit hlit (by simp [nums5])) (by simp [nums5]) (by simp [nums5]) (fun n hn => ((HI.out x HM.out n hn).below (HB.out)).below HB3.out)).mono ?_
    rintro e w4 ⟨v4, rfl, ho, hb⟩
    have HB4 := Aside0.mk (below_step HB3.out hb)
    have HO4 := Aside0.mk ho
    clear ho hb hlit HB3 HB2
    obtain ⟨g4, cap4, rfl, hg4, hg4l, _⟩ := Kd.R_form HO4.out (by simp [nums5])
    have hcells : ∀ (j : Nat) y, ((nums5 x).map itoaB)[j]? = some y → w4.cell? ⟨g4, 0 + j, none⟩ = some (.string y) := by
     intro j y hj
     have hjl := (List.getElem?_eq_some_iff.1 hj).1
     have h1 := (Kd.R_cell (ByteArray.empty) HO4.out (j : Int) (by omega) (by omega)).1
     rw [Int.toNat_natCast] at h1
     rw [Nat.zero_add, h1]
     simp [rdOf, List.getD_eq_getElem?_getD, hj]
    have hcap4 := (Kd.R_reads' HO4.out).2.1
    have hjl : (Lib.join (((nums5 x).map itoaB).map (·.data.toList)) ([32] : List UInt8)).length ≤ 39 := by
     have h1 := lineV_len HS5.out
     unfold lineV at h1
     rw [List.length_append] at h1
     have e : ((nums5 x).map itoaB).map (·.data.toList) = (nums5 x).map fun n => Lib.itoa n := by simp [itoaB]
     rw [e]
     simp at h1
     omega
    have HJL := Aside0.mk hjl
    clear hjl
    go_wp2_with fail
    refine (Tryz.strings_Join g4 0 cap4 ((nums5 x).map itoaB) ⟨#[32]⟩ _ hcells hg4l (by simp [nums5]) hcap4 (Nat.le_trans HJL.out (by omega))).mono ?_
    rintro e w5 ⟨rfl, hb⟩
    have HB5 := Aside0.mk (below_step HB4.out hb)
    clear hb hcells hcap4 hg4l hg4 HO4 HB4
    obtain ⟨sj, hsj⟩ : ∃ sj : ByteArray, sj = ⟨(Lib.join (((nums5 x).map itoaB).map (·.data.toList)) ([32] : List UInt8)).toArray⟩ := ⟨_, rfl⟩
    have hsl : sj.size ≤ 39 := by rw [hsj]; simpa [ByteArray.size] using HJL.out
    have HSJ : Aside0 ((sj ++ ⟨#[10]⟩ : ByteArray).data.toList = lineV x) := ⟨by
     rw [hsj]
     unfold lineV
     have e : ((nums5 x).map itoaB).map (·.data.toList) = (nums5 x).map fun n => Lib.itoa n := by simp [itoaB]
     simp [e]⟩
    have HSL : Aside0 ((sj ++ ⟨#[10]⟩ : ByteArray).size ≤ 40) := ⟨by
     rw [ByteArray.size_append]
     have : (⟨#[10]⟩ : ByteArray).size = 1 := rfl
     omega⟩
    have e32 : (⟨#[32]⟩ : ByteArray).data.toList = [32] := rfl
    rw [e32, ← hsj]
    clear hsj e32 HJL
    go_wp2_with fail
    have HO5 := Aside0.mk (IsBuilder_below HO.out HB5.out)
    have hpl := printV_len (l0.take k) (by
     rw [List.all_eq_true]
     intro y hy
     exact List.all_eq_true.1 G2.out y (List.mem_of_mem_take hy))
    rw [List.length_take] at hpl
    have hle : (Lib.byteCells (printV (l0.take k))).length + (sj ++ ⟨#[10]⟩ : ByteArray).size ≤ 140737488355328 := by
     rw [Lib.byteCells_length]
     have := HSL.out
     omega
    have hW := Tryz.Builder_WriteString w1.heap.size w1.heap.size (Lib.byteCells (printV (l0.take k))) (sj ++ ⟨#[10]⟩) w5 HO5.out hle (Nat.le_trans HS.out HB5.out.size)
    have HW := Aside0.mk hW
    clear hle hpl hW
    refine (HW.out).mono ?_
    rintro e w6 ⟨rfl, ho, hb⟩
    have HO6 : Aside0 (Lib.IsBuilder 199 5 w1.heap.size w1.heap.size (Lib.byteCells (printV (l0.take (k + 1)))) w6) := ⟨by
     rw [HSN.out, Lib.byteCells_append, ← HSJ.out]
     exact Or.inr ho⟩
    have HB6 : Aside0 (Below w.heap.size w w6) := ⟨(HB.out.trans (HB5.out.mono HB.out.size)).trans (hb.mono HB1.out.size)⟩
    have HS6 : Aside0 (w1.heap.size ≤ w6.heap.size) := ⟨Nat.le_trans (Nat.le_trans HS.out HB5.out.size) hb.size⟩
    clear ho hb
    go_wp2
    go_roundw
    case rel => exact ⟨k + 1, by omega, by go_num, HB6, HS6, HO6⟩
    case measure =>
     try rw [hw1]
     clear hw1
     simp [intOf]
     omega
   ·have hke : Aside0 (l0.take k = l0) := ⟨List.take_of_length_le (by omega)⟩
    go_wp2_with fail
    refine (Tryz.Builder_String_any w1.heap.size w1.heap.size (printV l0) _ (by have := HO.out; rw [hke.out] at this; exact this) HS.out).mono ?_
    rintro e w6 ⟨rfl, hb⟩
    have HB6 : Aside0 (Below w.heap.size w w6) := ⟨HB.out.trans (hb.mono HB1.out.size)⟩
    clear hb
    go_wp2
    go_ret2
    exact ⟨rfl, HB6.out⟩
end Go.Proofs.YtfdlhbdcejlopaaGreatDoor.B
namespace Go.Proofs.YtfdlhbdcejlopaaGreatDoor.B
set_option linter.unusedVariables false
def sampleV : List S156 := [⟨1, [10]⟩, ⟨2, [20]⟩, ⟨1, [40]⟩]
def operatedV : List S86 := [⟨20, 25, 5, 1, 19⟩, ⟨20, 15, 0, 0, 15⟩]
def costsV : List S31 := [⟨30, 50, 80⟩, ⟨30, 50, 80⟩]
def settledV2 : List S110 := [⟨4, 1120⟩, ⟨-5, 600⟩]
def bidsV : List S150 := [⟨⟨#[97]⟩, 10, 20⟩, ⟨⟨#[98]⟩, 5, 30⟩, ⟨⟨#[99]⟩, 5, 30⟩]
def textV : ByteArray := ⟨#[50, 48, 32, 50, 53, 32, 53, 32, 49, 32, 49, 57, 10]⟩
theorem aw_cost : nacellelaw08_cost.f = some (30, 50, 80) := rfl
theorem aw_sample : nacellelaw08_sample.f = some sampleV := rfl
theorem aw_operated : nacellelaw08_operated.f = some operatedV := rfl
theorem aw_revenue : market_Revenue.f 100 30 50 80 20 10 = some (200, 0) := by kernel_rfl
theorem aw_exp20 : market_Expected.f 100 sampleV 0 30 50 80 20 = some (950, 1, 0) := by kernel_rfl
theorem aw_exp10 : market_Expected.f 100 sampleV 0 30 50 80 10 = some (875, 1, 0) := by kernel_rfl
theorem aw_best : market_Best.f 100 sampleV 0 30 50 80 = some (20, 0) := by kernel_rfl
theorem aw_quantile : market_Quantile.f 100 sampleV 0 2 5 = some (20, 0) := by kernel_rfl
theorem aw_curtail : market_Curtail.f 100 [10, 10, 5] 12 = some ([5, 5, 2], 0) := by kernel_rfl
theorem aw_books : market_Books.f 100 operatedV costsV = some (40, 34, 5, 1, 1720, 0) := by kernel_rfl
theorem aw_settle : market_Settle.f 100 operatedV costsV = some (settledV2, 0) := by kernel_rfl
theorem aw_clear : market_Clear.f 100 bidsV 13 = some ([10, 2, 1], 30, 0) := by kernel_rfl
theorem aw_schedule : market_Schedule.f 100 2 1 0 1 [10, 5, 20] = some ([0, 1, 0], 14, 0) := by kernel_rfl
theorem aw_print : market_Print.f 100 (operatedV.take 1) = some (textV, 0) := by kernel_rfl
theorem aw_check20 : market_CheckBest.f 100 sampleV 0 30 50 80 20 = some 0 := by kernel_rfl
theorem aw_check10 : market_CheckBest.f 100 sampleV 0 30 50 80 10 = some 22 := by kernel_rfl
theorem aw_same1 : nacelleref01_SameInts.f 100 [5, 5, 2] [5, 5, 2] = some true := by kernel_rfl
theorem aw_same2 : nacelleref01_SameInts.f 100 [10, 2, 1] [10, 2, 1] = some true := by kernel_rfl
theorem aw_same3 : nacelleref01_SameInts.f 100 [0, 1, 0] [0, 1, 0] = some true := by kernel_rfl
end Go.Proofs.YtfdlhbdcejlopaaGreatDoor.B
namespace Go.Proofs.YtfdlhbdcejlopaaGreatDoor.B
open Go.RowKit Go.Proofs.YtfdlhbdcejlopaaGreatDoorW.PrintWords Go.Proofs.YtfdlhbdcejlopaaGreatDoorW.PrintLast Go.Proofs.YtfdlhbdcejlopaaGreatDoorW.PrintMore
attribute [local go_sem] max2_int min2_int max_two min_two
set_option linter.unusedVariables false
set_option linter.unusedSimpArgs false
theorem eqA110 (d : Nat) (w : World) (x0 y0 : Int) (x1 y1 : Int) :
  (Op.equalIn (d + 2) 110 (.agg #[.int .i64 x0, .int .i64 x1]) (.agg #[.int .i64 y0, .int .i64 y1])).run Tryz.prog w = .ok (x0 == y0 && (x1 == y1)) w := by
 refine eqA_of Tryz.underlying110 (by kernel_rfl) ?_
 refine eqf_cons (by rfl) (by go_simp; rfl) (by go_simp; rfl) (by go_simp) ?_
 exact eqf_last (by rfl) (by go_simp; rfl) (by go_simp; rfl) (by go_simp)
theorem eqA95 (d : Nat) (w : World) (x0 y0 : Int) (x1 y1 : Int) (x2 y2 : Int) (x3 y3 : Int) (x4 y4 : Int) :
  (Op.equalIn (d + 2) 95 (.agg #[.int .i64 x0, .int .i64 x1, .int .i64 x2, .int .i64 x3, .int .i64 x4]) (.agg #[.int .i64 y0, .int .i64 y1, .int .i64 y2, .int .i64 y3, .int .i64 y4])).run Tryz.prog w = .ok (x0 == y0 && (x1 == y1 && (x2 == y2 && (x3 == y3 && (x4 == y4))))) w := by
 refine eqA_of Tryz.underlying95 (by kernel_rfl) ?_
 refine eqf_cons (by rfl) (by go_simp; rfl) (by go_simp; rfl) (by go_simp) ?_
 refine eqf_cons (by rfl) (by go_simp; rfl) (by go_simp; rfl) (by go_simp) ?_
 refine eqf_cons (by rfl) (by go_simp; rfl) (by go_simp; rfl) (by go_simp) ?_
 refine eqf_cons (by rfl) (by go_simp; rfl) (by go_simp; rfl) (by go_simp) ?_
 exact eqf_last (by rfl) (by go_simp; rfl) (by go_simp; rfl) (by go_simp)
end Go.Proofs.YtfdlhbdcejlopaaGreatDoor.B
namespace Go.Proofs.YtfdlhbdcejlopaaGreatDoor.B
open Go.RowKit Go.Shelf Go.Proofs.YtfdlhbdcejlopaaGreatDoorW.PrintWords Go.Proofs.YtfdlhbdcejlopaaGreatDoorW.PrintLast Go.Proofs.YtfdlhbdcejlopaaGreatDoorW.PrintMore
attribute [local go_sem high] eqA43 eqA95 eqA110
set_option linter.unusedVariables false
set_option linter.unusedSimpArgs false
def Stable (F : World → Prop) : Prop := ∀ w w', Below w.heap.size w w' → F w → F w'
theorem Stable.below (w0 : World) : Stable (fun w => Below w0.heap.size w0 w) := fun _ _ hb h => below_step h hb
theorem Stable.and {F G : World → Prop} (hF : Stable F) (hG : Stable G) : Stable (fun w => F w ∧ G w) := fun _ _ hb h => ⟨hF _ _ hb h.1, hG _ _ hb h.2⟩
theorem Stable.C {α : Type} (d : Kd α) (A : Option Addr) (n : Nat) (xs : List α) : Stable (fun w => d.C w A n xs) := fun _ _ hb h => Kd.C_below h hb
theorem Stable.blk (g : Nat) (o : Obj) : Stable (fun w => w.heap[g]? = some o) := fun _ _ hb h => blk_below h hb
theorem C_blk {α : Type} {d : Kd α} {w : World} {g T : Nat} {xs : List α} {inner : List Value} (h : w.heap[g]? = some (.cells inner.toArray T (0, 0))) (hr : Reps (d.K w) d.sz xs inner) (hm : xs.length ≤ 9223372036854775807) : d.C w (some ⟨g, 0, none⟩) xs.length xs := by
 refine ⟨rfl, hm, fun _ => ⟨⟨g, 0, none⟩, rfl, fun j p hj => ⟨(inner.drop (j * d.sz)).take d.sz, ?_, hr.2 j p hj, fun i u hu => ?_⟩⟩⟩
 ·have hl := (List.getElem?_eq_some_iff.1 hj).1
  have h1 : (j + 1) * d.sz ≤ xs.length * d.sz := Nat.mul_le_mul_right _ hl
  rw [Nat.add_mul, Nat.one_mul] at h1
  rw [List.length_take, List.length_drop, hr.1]
  omega
 ·have e : (⟨g, 0, none⟩ : Addr).add (j * d.sz + i) = ⟨g, j * d.sz + i, none⟩ := by
   unfold Addr.add
   split
   ·rename_i h0
    rw [show j * d.sz + i = 0 from by simpa using h0]
   ·simp
  rw [e, blk_cell h]
  rw [List.getElem?_take] at hu
  split at hu
  ·rw [List.getElem?_drop] at hu
   simpa using hu
  ·cases hu
def nacellelaw08_awake.f : Option Bool := some true
set_option maxRecDepth 100000 in
set_option maxHeartbeats 4000000 in
theorem nacellelaw08_awake.calls (r : Bool) (w : World) (h : nacellelaw08_awake.f = some r) : Calls Tryz.prog 18 #[] w fun e w' => e = .returned (.bool r) ∧ Below w.heap.size w w' := by
 obtain rfl := Option.some.inj h
 have HS := Aside0.mk (Stable.below w)
 have HF := Aside0.mk (Below.refl w.heap.size w)
 go_enter Tryz.func18, Tryz.ntmps18
 go_wp2_with fail
 refine (nacellelaw08_cost.calls 30 50 80 _ aw_cost).mono ?_
 rintro e w1 ⟨rfl, hb⟩
 have HF' := Aside0.mk (HS.out _ _ hb HF.out)
 clear HF
 have HF := HF'
 clear HF'
 clear hb
 go_wp2_with fail
 refine (market_Revenue.calls 100 30 50 80 20 10 200 0 _ aw_revenue).mono ?_
 rintro e w2 ⟨rfl, hb⟩
 have HF' := Aside0.mk (HS.out _ _ hb HF.out)
 clear HF
 have HF := HF'
 clear HF'
 clear hb
 go_wp2_with fail
 refine (nacellelaw08_sample.calls sampleV _ aw_sample).mono ?_
 rintro e w3 ⟨v_, rfl, ho, hb⟩
 obtain ⟨A1, c1, rfl⟩ := Kd.N_slice ho
 obtain ⟨_, hc1, hC⟩ := Kd.N_reads' ho
 have HC1 := Aside0.mk hc1
 have HF' := Aside0.mk (HS.out _ _ hb HF.out)
 clear HF
 have HF := HF'
 clear HF'
 have HS' := Aside0.mk (Stable.and HS.out (Stable.C k156 A1 sampleV.length sampleV))
 have HF' := Aside0.mk (And.intro HF.out (hC))
 clear HS HF
 have HS := HS'
 have HF := HF'
 clear HS' HF'
 clear hb ho hC hc1
 go_wp2_with fail
 refine (nacellelaw08_cost.calls 30 50 80 _ aw_cost).mono ?_
 rintro e w4 ⟨rfl, hb⟩
 have HF' := Aside0.mk (HS.out _ _ hb HF.out)
 clear HF
 have HF := HF'
 clear HF'
 clear hb
 go_wp2_with fail
 refine (market_Expected.calls 100 A1 c1 sampleV 0 30 50 80 20 950 1 0 _ HF.out.2 HC1.out aw_exp20).mono ?_
 rintro e w5 ⟨rfl, hb⟩
 have HF' := Aside0.mk (HS.out _ _ hb HF.out)
 clear HF
 have HF := HF'
 clear HF'
 clear hb
 have HF' := Aside0.mk (HS.out _ _ (below_alloc (Below.refl _ _) (.cells #[.int .i64 950, .int .i64 1] 43)) HF.out)
 clear HF
 have HF := HF'
 clear HF'
 have HS' := Aside0.mk (Stable.and HS.out (Stable.blk w5.heap.size (.cells #[.int .i64 950, .int .i64 1] 43)))
 have HF' := Aside0.mk (And.intro HF.out (blk_new w5 (.cells #[.int .i64 950, .int .i64 1] 43)))
 clear HS HF
 have HS := HS'
 have HF := HF'
 clear HS' HF'
 go_wp2_with fail
 refine (nacellelaw08_sample.calls sampleV _ aw_sample).mono ?_
 rintro e w6 ⟨v_, rfl, ho, hb⟩
 obtain ⟨A2, c2, rfl⟩ := Kd.N_slice ho
 obtain ⟨_, hc2, hC⟩ := Kd.N_reads' ho
 have HC2 := Aside0.mk hc2
 have HF' := Aside0.mk (HS.out _ _ hb HF.out)
 clear HF
 have HF := HF'
 clear HF'
 have HS' := Aside0.mk (Stable.and HS.out (Stable.C k156 A2 sampleV.length sampleV))
 have HF' := Aside0.mk (And.intro HF.out (hC))
 clear HS HF
 have HS := HS'
 have HF := HF'
 clear HS' HF'
 clear hb ho hC hc2
 go_wp2_with fail
 refine (nacellelaw08_cost.calls 30 50 80 _ aw_cost).mono ?_
 rintro e w7 ⟨rfl, hb⟩
 have HF' := Aside0.mk (HS.out _ _ hb HF.out)
 clear HF
 have HF := HF'
 clear HF'
 clear hb
 go_wp2_with fail
 refine (market_Expected.calls 100 A2 c2 sampleV 0 30 50 80 10 875 1 0 _ HF.out.2 HC2.out aw_exp10).mono ?_
 rintro e w8 ⟨rfl, hb⟩
 have HF' := Aside0.mk (HS.out _ _ hb HF.out)
 clear HF
 have HF := HF'
 clear HF'
 clear hb
 have HF' := Aside0.mk (HS.out _ _ (below_alloc (Below.refl _ _) (.cells #[.int .i64 875, .int .i64 1] 43)) HF.out)
 clear HF
 have HF := HF'
 clear HF'
 have HS' := Aside0.mk (Stable.and HS.out (Stable.blk w8.heap.size (.cells #[.int .i64 875, .int .i64 1] 43)))
 have HF' := Aside0.mk (And.intro HF.out (blk_new w8 (.cells #[.int .i64 875, .int .i64 1] 43)))
 clear HS HF
 have HS := HS'
 have HF := HF'
 clear HS' HF'
 go_wp2_with fail
 refine (nacellelaw08_sample.calls sampleV _ aw_sample).mono ?_
 rintro e w9 ⟨v_, rfl, ho, hb⟩
 obtain ⟨A3, c3, rfl⟩ := Kd.N_slice ho
 obtain ⟨_, hc3, hC⟩ := Kd.N_reads' ho
 have HC3 := Aside0.mk hc3
 have HF' := Aside0.mk (HS.out _ _ hb HF.out)
 clear HF
 have HF := HF'
 clear HF'
 have HS' := Aside0.mk (Stable.and HS.out (Stable.C k156 A3 sampleV.length sampleV))
 have HF' := Aside0.mk (And.intro HF.out (hC))
 clear HS HF
 have HS := HS'
 have HF := HF'
 clear HS' HF'
 clear hb ho hC hc3
 go_wp2_with fail
 refine (nacellelaw08_cost.calls 30 50 80 _ aw_cost).mono ?_
 rintro e w10 ⟨rfl, hb⟩
 have HF' := Aside0.mk (HS.out _ _ hb HF.out)
 clear HF
 have HF := HF'
 clear HF'
 clear hb
 go_wp2_with fail
 refine (market_Best.calls 100 A3 c3 sampleV 0 30 50 80 20 0 _ HF.out.2 HC3.out aw_best).mono ?_
 rintro e w11 ⟨rfl, hb⟩
 have HF' := Aside0.mk (HS.out _ _ hb HF.out)
 clear HF
 have HF := HF'
 clear HF'
 clear hb
 go_wp2_with fail
 refine (nacellelaw08_sample.calls sampleV _ aw_sample).mono ?_
 rintro e w12 ⟨v_, rfl, ho, hb⟩
 obtain ⟨A4, c4, rfl⟩ := Kd.N_slice ho
 obtain ⟨_, hc4, hC⟩ := Kd.N_reads' ho
 have HC4 := Aside0.mk hc4
 have HF' := Aside0.mk (HS.out _ _ hb HF.out)
 clear HF
 have HF := HF'
 clear HF'
 have HS' := Aside0.mk (Stable.and HS.out (Stable.C k156 A4 sampleV.length sampleV))
 have HF' := Aside0.mk (And.intro HF.out (hC))
 clear HS HF
 have HS := HS'
 have HF := HF'
 clear HS' HF'
 clear hb ho hC hc4
 go_wp2_with fail
 refine (market_Quantile.calls 100 A4 c4 sampleV 0 2 5 20 0 _ HF.out.2 HC4.out aw_quantile).mono ?_
 rintro e w13 ⟨rfl, hb⟩
 have HF' := Aside0.mk (HS.out _ _ hb HF.out)
 clear HF
 have HF := HF'
 clear HF'
 clear hb
 have HF' := Aside0.mk (HS.out _ _ (below_alloc (Below.refl _ _) (.cells #[.int .i64 10, .int .i64 10, .int .i64 5] 3)) HF.out)
 clear HF
 have HF := HF'
 clear HF'
 have hl_ : (w13.alloc (.cells #[.int .i64 10, .int .i64 10, .int .i64 5] 3)).heap[w13.heap.size]? = some (.cells (([10, 10, 5] : List Int).map (Value.int .i64)).toArray 3 (0, 0)) := blk_new w13 (.cells #[.int .i64 10, .int .i64 10, .int .i64 5] 3)
 have hL_ := C_lit hl_ (by simp)
 have HL_ := Aside0.mk hL_
 clear hl_ hL_
 go_wp2_with fail
 refine (market_Curtail.calls 100 (some ⟨w13.heap.size, 0, none⟩) 3 [10, 10, 5] 12 [5, 5, 2] 0 _ HL_.out (by simp) aw_curtail).mono ?_
 rintro e w14 ⟨v_, rfl, ho, hb⟩
 obtain ⟨Ak, ck, rfl⟩ := Kd.R_slice ho
 obtain ⟨_, hc_, hC⟩ := Kd.R_reads' ho
 have HCk := Aside0.mk hc_
 have HF' := Aside0.mk (HS.out _ _ hb HF.out)
 clear HF
 have HF := HF'
 clear HF'
 have HS' := Aside0.mk (Stable.and HS.out (Stable.C (Kd.int .i64) Ak ([5, 5, 2] : List Int).length ([5, 5, 2] : List Int)))
 have HF' := Aside0.mk (And.intro HF.out (hC))
 clear HS HF
 have HS := HS'
 have HF := HF'
 clear HS' HF'
 clear hb ho hC hc_
 clear HL_
 go_wp2_with fail
 refine (nacellelaw08_operated.calls operatedV _ aw_operated).mono ?_
 rintro e w15 ⟨v_, rfl, ho, hb⟩
 obtain ⟨Ao1, co1, rfl⟩ := Kd.R_slice ho
 obtain ⟨_, hc_, hC⟩ := Kd.R_reads' ho
 have HCo1 := Aside0.mk hc_
 have HF' := Aside0.mk (HS.out _ _ hb HF.out)
 clear HF
 have HF := HF'
 clear HF'
 have HS' := Aside0.mk (Stable.and HS.out (Stable.C k86 Ao1 operatedV.length operatedV))
 have HF' := Aside0.mk (And.intro HF.out (hC))
 clear HS HF
 have HS := HS'
 have HF := HF'
 clear HS' HF'
 clear hb ho hC hc_
 go_wp2_with fail
 refine (nacellelaw08_cost.calls 30 50 80 _ aw_cost).mono ?_
 rintro e w16 ⟨rfl, hb⟩
 have HF' := Aside0.mk (HS.out _ _ hb HF.out)
 clear HF
 have HF := HF'
 clear HF'
 clear hb
 go_wp2_with fail
 refine (nacellelaw08_cost.calls 30 50 80 _ aw_cost).mono ?_
 rintro e w17 ⟨rfl, hb⟩
 have HF' := Aside0.mk (HS.out _ _ hb HF.out)
 clear HF
 have HF := HF'
 clear HF'
 clear hb
 have HF' := Aside0.mk (HS.out _ _ (below_alloc (Below.refl _ _) (.cells #[.int .i64 30, .int .i64 50, .int .i64 80, .int .i64 30, .int .i64 50, .int .i64 80] 31)) HF.out)
 clear HF
 have HF := HF'
 clear HF'
 have hl_ : (w17.alloc (.cells #[.int .i64 30, .int .i64 50, .int .i64 80, .int .i64 30, .int .i64 50, .int .i64 80] 31)).heap[w17.heap.size]? = some (.cells ([] ++ [.int .i64 30, .int .i64 50, .int .i64 80] ++ [.int .i64 30, .int .i64 50, .int .i64 80] : List Value).toArray 31 (0, 0)) := blk_new w17 (.cells #[.int .i64 30, .int .i64 50, .int .i64 80, .int .i64 30, .int .i64 50, .int .i64 80] 31)
 have hL_ : Kd.C k31 (w17.alloc (.cells #[.int .i64 30, .int .i64 50, .int .i64 80, .int .i64 30, .int .i64 50, .int .i64 80] 31)) (some ⟨w17.heap.size, 0, none⟩) costsV.length costsV := C_blk hl_ (Reps.snoc (Reps.snoc (Reps.none (k31.K _) k31.sz) (k31_mk _ ⟨30, 50, 80⟩) rfl) (k31_mk _ ⟨30, 50, 80⟩) rfl) (by decide)
 have HL_ := Aside0.mk hL_
 clear hl_ hL_
 go_wp2_with fail
 refine (market_Books.calls 100 Ao1 co1 operatedV (some ⟨w17.heap.size, 0, none⟩) 2 costsV 40 34 5 1 1720 0 _ HF.out.2 HCo1.out HL_.out (by decide) aw_books).mono ?_
 rintro e w18 ⟨rfl, hb⟩
 have HF' := Aside0.mk (HS.out _ _ hb HF.out)
 clear HF
 have HF := HF'
 clear HF'
 clear hb
 clear HL_
 have HF' := Aside0.mk (HS.out _ _ (below_alloc (Below.refl _ _) (.cells #[.int .i64 40, .int .i64 34, .int .i64 5, .int .i64 1, .int .i64 1720] 95)) HF.out)
 clear HF
 have HF := HF'
 clear HF'
 have HS' := Aside0.mk (Stable.and HS.out (Stable.blk w18.heap.size (.cells #[.int .i64 40, .int .i64 34, .int .i64 5, .int .i64 1, .int .i64 1720] 95)))
 have HF' := Aside0.mk (And.intro HF.out (blk_new w18 (.cells #[.int .i64 40, .int .i64 34, .int .i64 5, .int .i64 1, .int .i64 1720] 95)))
 clear HS HF
 have HS := HS'
 have HF := HF'
 clear HS' HF'
 go_wp2_with fail
 refine (nacellelaw08_operated.calls operatedV _ aw_operated).mono ?_
 rintro e w19 ⟨v_, rfl, ho, hb⟩
 obtain ⟨Ao2, co2, rfl⟩ := Kd.R_slice ho
 obtain ⟨_, hc_, hC⟩ := Kd.R_reads' ho
 have HCo2 := Aside0.mk hc_
 have HF' := Aside0.mk (HS.out _ _ hb HF.out)
 clear HF
 have HF := HF'
 clear HF'
 have HS' := Aside0.mk (Stable.and HS.out (Stable.C k86 Ao2 operatedV.length operatedV))
 have HF' := Aside0.mk (And.intro HF.out (hC))
 clear HS HF
 have HS := HS'
 have HF := HF'
 clear HS' HF'
 clear hb ho hC hc_
 go_wp2_with fail
 refine (nacellelaw08_cost.calls 30 50 80 _ aw_cost).mono ?_
 rintro e w20 ⟨rfl, hb⟩
 have HF' := Aside0.mk (HS.out _ _ hb HF.out)
 clear HF
 have HF := HF'
 clear HF'
 clear hb
 go_wp2_with fail
 refine (nacellelaw08_cost.calls 30 50 80 _ aw_cost).mono ?_
 rintro e w21 ⟨rfl, hb⟩
 have HF' := Aside0.mk (HS.out _ _ hb HF.out)
 clear HF
 have HF := HF'
 clear HF'
 clear hb
 have HF' := Aside0.mk (HS.out _ _ (below_alloc (Below.refl _ _) (.cells #[.int .i64 30, .int .i64 50, .int .i64 80, .int .i64 30, .int .i64 50, .int .i64 80] 31)) HF.out)
 clear HF
 have HF := HF'
 clear HF'
 have hl_ : (w21.alloc (.cells #[.int .i64 30, .int .i64 50, .int .i64 80, .int .i64 30, .int .i64 50, .int .i64 80] 31)).heap[w21.heap.size]? = some (.cells ([] ++ [.int .i64 30, .int .i64 50, .int .i64 80] ++ [.int .i64 30, .int .i64 50, .int .i64 80] : List Value).toArray 31 (0, 0)) := blk_new w21 (.cells #[.int .i64 30, .int .i64 50, .int .i64 80, .int .i64 30, .int .i64 50, .int .i64 80] 31)
 have hL_ : Kd.C k31 (w21.alloc (.cells #[.int .i64 30, .int .i64 50, .int .i64 80, .int .i64 30, .int .i64 50, .int .i64 80] 31)) (some ⟨w21.heap.size, 0, none⟩) costsV.length costsV := C_blk hl_ (Reps.snoc (Reps.snoc (Reps.none (k31.K _) k31.sz) (k31_mk _ ⟨30, 50, 80⟩) rfl) (k31_mk _ ⟨30, 50, 80⟩) rfl) (by decide)
 have HL_ := Aside0.mk hL_
 clear hl_ hL_
 go_wp2_with fail
 refine (market_Settle.calls 100 Ao2 co2 operatedV (some ⟨w21.heap.size, 0, none⟩) 2 costsV settledV2 0 _ HF.out.2 HCo2.out HL_.out (by decide) aw_settle).mono ?_
 rintro e w22 ⟨v_, rfl, ho, hb⟩
 obtain ⟨Ar, cr, rfl⟩ := Kd.R_slice ho
 obtain ⟨_, hc_, hC⟩ := Kd.R_reads' ho
 have HCr := Aside0.mk hc_
 have HF' := Aside0.mk (HS.out _ _ hb HF.out)
 clear HF
 have HF := HF'
 clear HF'
 have HS' := Aside0.mk (Stable.and HS.out (Stable.C (k110) Ar (settledV2).length (settledV2)))
 have HF' := Aside0.mk (And.intro HF.out (hC))
 clear HS HF
 have HS := HS'
 have HF := HF'
 clear HS' HF'
 clear hb ho hC hc_
 clear HL_
 obtain ⟨ad, ead, _, _⟩ := at_T110 (HF.out.2) 0 (by decide) (by decide)
 subst ead
 have hu43 := Tryz.underlying43
 have hu95 := Tryz.underlying95
 have hu110 := Tryz.underlying110
 have hx0 : w22.cell? ⟨w5.heap.size, 0, none⟩ = some (.int .i64 950) := (blk_cell (HF.out.1.1.1.1.1.1.1.1.1.2) 0).trans rfl
 have hx1 : w22.cell? ⟨w5.heap.size, 1, none⟩ = some (.int .i64 1) := (blk_cell (HF.out.1.1.1.1.1.1.1.1.1.2) 1).trans rfl
 have hltx := blk_lt (HF.out.1.1.1.1.1.1.1.1.1.2)
 have hy0 : w22.cell? ⟨w8.heap.size, 0, none⟩ = some (.int .i64 875) := (blk_cell (HF.out.1.1.1.1.1.1.1.2) 0).trans rfl
 have hy1 : w22.cell? ⟨w8.heap.size, 1, none⟩ = some (.int .i64 1) := (blk_cell (HF.out.1.1.1.1.1.1.1.2) 1).trans rfl
 have hlty := blk_lt (HF.out.1.1.1.1.1.1.1.2)
 have ht0 : w22.cell? ⟨w18.heap.size, 0, none⟩ = some (.int .i64 40) := (blk_cell (HF.out.1.1.2) 0).trans rfl
 have ht1 : w22.cell? ⟨w18.heap.size, 1, none⟩ = some (.int .i64 34) := (blk_cell (HF.out.1.1.2) 1).trans rfl
 have ht2 : w22.cell? ⟨w18.heap.size, 2, none⟩ = some (.int .i64 5) := (blk_cell (HF.out.1.1.2) 2).trans rfl
 have ht3 : w22.cell? ⟨w18.heap.size, 3, none⟩ = some (.int .i64 1) := (blk_cell (HF.out.1.1.2) 3).trans rfl
 have ht4 : w22.cell? ⟨w18.heap.size, 4, none⟩ = some (.int .i64 1720) := (blk_cell (HF.out.1.1.2) 4).trans rfl
 have hltt := blk_lt (HF.out.1.1.2)
 go_wp2_with fail
 clear hx0 hx1 hltx hy0 hy1 hlty ht0 ht1 ht2 ht3 ht4 hltt
 have HF' := Aside0.mk (HS.out _ _ (below_alloc (Below.refl _ _) (.cells #[.int .i64 5, .int .i64 5, .int .i64 2] 3)) HF.out)
 clear HF
 have HF := HF'
 clear HF'
 have hl_ : (w22.alloc (.cells #[.int .i64 5, .int .i64 5, .int .i64 2] 3)).heap[w22.heap.size]? = some (.cells (([5, 5, 2] : List Int).map (Value.int .i64)).toArray 3 (0, 0)) := blk_new w22 (.cells #[.int .i64 5, .int .i64 5, .int .i64 2] 3)
 have hL_ := C_lit hl_ (by simp)
 have HL_ := Aside0.mk hL_
 clear hl_ hL_
 refine (nacelleref01_SameInts.calls 100 Ak ck [5, 5, 2] (some ⟨w22.heap.size, 0, none⟩) 3 [5, 5, 2] true _ (HF.out.1.1.1.1.2) HCk.out HL_.out (by simp) aw_same1).mono ?_
 rintro e w23 ⟨rfl, hb⟩
 have hb := drawn_below hb
 have HF' := Aside0.mk (HS.out _ _ hb HF.out)
 clear HF
 have HF := HF'
 clear HF'
 clear hb
 clear HL_
 have c0 := at_T110 (HF.out.2) 0 (by decide) (by decide)
 have c1 := at_T110 (HF.out.2) 1 (by decide) (by decide)
 obtain ⟨_, e0, hr00, hr01⟩ := c0
 cases e0
 obtain ⟨_, e1, hr10, hr11⟩ := c1
 cases e1
 have hR00 : w23.cell? ad = some (.int .i64 4) := hr00
 have hR01 : w23.cell? ⟨ad.block, ad.off + 1, none⟩ = some (.int .i64 1120) := hr01
 have hR10 : w23.cell? ⟨ad.block, ad.off + 2, none⟩ = some (.int .i64 (-5)) := hr10
 have hR11 : w23.cell? ⟨ad.block, ad.off + 2 + 1, none⟩ = some (.int .i64 600) := hr11
 clear hr00 hr01 hr10 hr11
 have hx0 : w23.cell? ⟨w5.heap.size, 0, none⟩ = some (.int .i64 950) := (blk_cell (HF.out.1.1.1.1.1.1.1.1.1.2) 0).trans rfl
 have hx1 : w23.cell? ⟨w5.heap.size, 1, none⟩ = some (.int .i64 1) := (blk_cell (HF.out.1.1.1.1.1.1.1.1.1.2) 1).trans rfl
 have hltx := blk_lt (HF.out.1.1.1.1.1.1.1.1.1.2)
 have hy0 : w23.cell? ⟨w8.heap.size, 0, none⟩ = some (.int .i64 875) := (blk_cell (HF.out.1.1.1.1.1.1.1.2) 0).trans rfl
 have hy1 : w23.cell? ⟨w8.heap.size, 1, none⟩ = some (.int .i64 1) := (blk_cell (HF.out.1.1.1.1.1.1.1.2) 1).trans rfl
 have hlty := blk_lt (HF.out.1.1.1.1.1.1.1.2)
 have ht0 : w23.cell? ⟨w18.heap.size, 0, none⟩ = some (.int .i64 40) := (blk_cell (HF.out.1.1.2) 0).trans rfl
 have ht1 : w23.cell? ⟨w18.heap.size, 1, none⟩ = some (.int .i64 34) := (blk_cell (HF.out.1.1.2) 1).trans rfl
 have ht2 : w23.cell? ⟨w18.heap.size, 2, none⟩ = some (.int .i64 5) := (blk_cell (HF.out.1.1.2) 2).trans rfl
 have ht3 : w23.cell? ⟨w18.heap.size, 3, none⟩ = some (.int .i64 1) := (blk_cell (HF.out.1.1.2) 3).trans rfl
 have ht4 : w23.cell? ⟨w18.heap.size, 4, none⟩ = some (.int .i64 1720) := (blk_cell (HF.out.1.1.2) 4).trans rfl
 have hltt := blk_lt (HF.out.1.1.2)
 go_wp2_with fail
 clear hx0 hx1 hltx hy0 hy1 hlty ht0 ht1 ht2 ht3 ht4 hltt
 clear hR00 hR01 hR10 hR11
 have HF' := Aside0.mk (HS.out _ _ (below_alloc (Below.refl _ _) (.cells #[.string ⟨#[97]⟩, .int .i64 10, .int .i64 20, .string ⟨#[98]⟩, .int .i64 5, .int .i64 30, .string ⟨#[99]⟩, .int .i64 5, .int .i64 30] 150)) HF.out)
 clear HF
 have HF := HF'
 clear HF'
 have hl_ : (w23.alloc (.cells #[.string ⟨#[97]⟩, .int .i64 10, .int .i64 20, .string ⟨#[98]⟩, .int .i64 5, .int .i64 30, .string ⟨#[99]⟩, .int .i64 5, .int .i64 30] 150)).heap[w23.heap.size]? = some (.cells ([] ++ [.string ⟨#[97]⟩, .int .i64 10, .int .i64 20] ++ [.string ⟨#[98]⟩, .int .i64 5, .int .i64 30] ++ [.string ⟨#[99]⟩, .int .i64 5, .int .i64 30] : List Value).toArray 150 (0, 0)) := blk_new w23 (.cells #[.string ⟨#[97]⟩, .int .i64 10, .int .i64 20, .string ⟨#[98]⟩, .int .i64 5, .int .i64 30, .string ⟨#[99]⟩, .int .i64 5, .int .i64 30] 150)
 have hL_ : Kd.C k150 (w23.alloc (.cells #[.string ⟨#[97]⟩, .int .i64 10, .int .i64 20, .string ⟨#[98]⟩, .int .i64 5, .int .i64 30, .string ⟨#[99]⟩, .int .i64 5, .int .i64 30] 150)) (some ⟨w23.heap.size, 0, none⟩) bidsV.length bidsV := C_blk hl_ (Reps.snoc (Reps.snoc (Reps.snoc (Reps.none (k150.K _) k150.sz) (k150_mk _ ⟨⟨#[97]⟩, 10, 20⟩) rfl) (k150_mk _ ⟨⟨#[98]⟩, 5, 30⟩) rfl) (k150_mk _ ⟨⟨#[99]⟩, 5, 30⟩) rfl) (by decide)
 have HL_ := Aside0.mk hL_
 clear hl_ hL_
 refine (market_Clear.calls 100 (some ⟨w23.heap.size, 0, none⟩) 3 bidsV 13 [10, 2, 1] 30 0 _ HL_.out (by decide) aw_clear).mono ?_
 rintro e w24 ⟨v_, rfl, ho, hb⟩
 obtain ⟨Aq, cq, rfl⟩ := Kd.R_slice ho
 obtain ⟨_, hc_, hC⟩ := Kd.R_reads' ho
 have HCq := Aside0.mk hc_
 have HF' := Aside0.mk (HS.out _ _ hb HF.out)
 clear HF
 have HF := HF'
 clear HF'
 have HS' := Aside0.mk (Stable.and HS.out (Stable.C (Kd.int .i64) Aq ([10, 2, 1] : List Int).length ([10, 2, 1] : List Int)))
 have HF' := Aside0.mk (And.intro HF.out (hC))
 clear HS HF
 have HS := HS'
 have HF := HF'
 clear HS' HF'
 clear hb ho hC hc_
 clear HL_
 go_wp2_with fail
 have HF' := Aside0.mk (HS.out _ _ (below_alloc (Below.refl _ _) (.cells #[.int .i64 10, .int .i64 5, .int .i64 20] 3)) HF.out)
 clear HF
 have HF := HF'
 clear HF'
 have hl_ : (w24.alloc (.cells #[.int .i64 10, .int .i64 5, .int .i64 20] 3)).heap[w24.heap.size]? = some (.cells (([10, 5, 20] : List Int).map (Value.int .i64)).toArray 3 (0, 0)) := blk_new w24 (.cells #[.int .i64 10, .int .i64 5, .int .i64 20] 3)
 have hL_ := C_lit hl_ (by simp)
 have HL_ := Aside0.mk hL_
 clear hl_ hL_
 refine (market_Schedule.calls 100 2 1 0 1 (some ⟨w24.heap.size, 0, none⟩) 3 [10, 5, 20] [0, 1, 0] 14 0 _ HL_.out (by simp) aw_schedule).mono ?_
 rintro e w25 ⟨v_, rfl, ho, hb⟩
 obtain ⟨Ah, ch, rfl⟩ := Kd.R_slice ho
 obtain ⟨_, hc_, hC⟩ := Kd.R_reads' ho
 have HCh := Aside0.mk hc_
 have HF' := Aside0.mk (HS.out _ _ hb HF.out)
 clear HF
 have HF := HF'
 clear HF'
 have HS' := Aside0.mk (Stable.and HS.out (Stable.C (Kd.int .i64) Ah ([0, 1, 0] : List Int).length ([0, 1, 0] : List Int)))
 have HF' := Aside0.mk (And.intro HF.out (hC))
 clear HS HF
 have HS := HS'
 have HF := HF'
 clear HS' HF'
 clear hb ho hC hc_
 clear HL_
 go_wp2_with fail
 refine (nacellelaw08_operated.calls operatedV _ aw_operated).mono ?_
 rintro e w26 ⟨v_, rfl, ho, hb⟩
 obtain ⟨Ao3, co3, rfl⟩ := Kd.R_slice ho
 obtain ⟨_, hc_, hC⟩ := Kd.R_reads' ho
 have HCo3 := Aside0.mk hc_
 have HF' := Aside0.mk (HS.out _ _ hb HF.out)
 clear HF
 have HF := HF'
 clear HF'
 have HS' := Aside0.mk (Stable.and HS.out (Stable.C k86 Ao3 operatedV.length operatedV))
 have HF' := Aside0.mk (And.intro HF.out (hC))
 clear HS HF
 have HS := HS'
 have HF := HF'
 clear HS' HF'
 clear hb ho hC hc_
 have hc3 := HCo3.out
 have hc3' : 1 ≤ co3 := Nat.le_trans (by decide) hc3
 go_wp2_with fail
 have hI_ : ∀ q ∈ operatedV.take 1, ∀ n ∈ nums5 q, ItoaAt w26 n := fun q hq n hn => itoaAt_small w26 n ((by decide : ∀ q ∈ operatedV.take 1, ∀ n ∈ nums5 q, 0 ≤ n) q hq n hn) ((by decide : ∀ q ∈ operatedV.take 1, ∀ n ∈ nums5 q, n < 100) q hq n hn)
 have hT_ := Kd.C_take (m := 1) (HF.out.2) (by decide)
 refine (market_Print.calls 100 Ao3 co3 (operatedV.take 1) textV 0 _ hT_ hc3' hI_ aw_print).mono ?_
 rintro e w27 ⟨rfl, hb⟩
 have HF' := Aside0.mk (HS.out _ _ hb HF.out)
 clear HF
 have HF := HF'
 clear HF'
 clear hb
 clear hI_ hT_ hc3 hc3'
 go_wp2_with fail
 have HF' := Aside0.mk (HS.out _ _ (below_alloc (Below.refl _ _) (.cells #[.int .i64 10, .int .i64 2, .int .i64 1] 3)) HF.out)
 clear HF
 have HF := HF'
 clear HF'
 have hl_ : (w27.alloc (.cells #[.int .i64 10, .int .i64 2, .int .i64 1] 3)).heap[w27.heap.size]? = some (.cells (([10, 2, 1] : List Int).map (Value.int .i64)).toArray 3 (0, 0)) := blk_new w27 (.cells #[.int .i64 10, .int .i64 2, .int .i64 1] 3)
 have hL_ := C_lit hl_ (by simp)
 have HL_ := Aside0.mk hL_
 clear hl_ hL_
 refine (nacelleref01_SameInts.calls 100 Aq cq [10, 2, 1] (some ⟨w27.heap.size, 0, none⟩) 3 [10, 2, 1] true _ (HF.out.1.1.2) HCq.out HL_.out (by simp) aw_same2).mono ?_
 rintro e w28 ⟨rfl, hb⟩
 have hb := drawn_below hb
 have HF' := Aside0.mk (HS.out _ _ hb HF.out)
 clear HF
 have HF := HF'
 clear HF'
 clear hb
 clear HL_
 go_wp2_with fail
 have HF' := Aside0.mk (HS.out _ _ (below_alloc (Below.refl _ _) (.cells #[.int .i64 0, .int .i64 1, .int .i64 0] 3)) HF.out)
 clear HF
 have HF := HF'
 clear HF'
 have hl_ : (w28.alloc (.cells #[.int .i64 0, .int .i64 1, .int .i64 0] 3)).heap[w28.heap.size]? = some (.cells (([0, 1, 0] : List Int).map (Value.int .i64)).toArray 3 (0, 0)) := blk_new w28 (.cells #[.int .i64 0, .int .i64 1, .int .i64 0] 3)
 have hL_ := C_lit hl_ (by simp)
 have HL_ := Aside0.mk hL_
 clear hl_ hL_
 refine (nacelleref01_SameInts.calls 100 Ah ch [0, 1, 0] (some ⟨w28.heap.size, 0, none⟩) 3 [0, 1, 0] true _ (HF.out.1.2) HCh.out HL_.out (by simp) aw_same3).mono ?_
 rintro e w29 ⟨rfl, hb⟩
 have hb := drawn_below hb
 have HF' := Aside0.mk (HS.out _ _ hb HF.out)
 clear HF
 have HF := HF'
 clear HF'
 clear hb
 clear HL_
 have htx_ : textV = ⟨#[50, 48, 32, 50, 53, 32, 53, 32, 49, 32, 49, 57, 10]⟩ := rfl
 go_wp2_with fail
 refine (nacellelaw08_sample.calls sampleV _ aw_sample).mono ?_
 rintro e w30 ⟨v_, rfl, ho, hb⟩
 obtain ⟨A5, c5, rfl⟩ := Kd.N_slice ho
 obtain ⟨_, hc5, hC⟩ := Kd.N_reads' ho
 have HC5 := Aside0.mk hc5
 have HF' := Aside0.mk (HS.out _ _ hb HF.out)
 clear HF
 have HF := HF'
 clear HF'
 have HS' := Aside0.mk (Stable.and HS.out (Stable.C k156 A5 sampleV.length sampleV))
 have HF' := Aside0.mk (And.intro HF.out (hC))
 clear HS HF
 have HS := HS'
 have HF := HF'
 clear HS' HF'
 clear hb ho hC hc5
 go_wp2_with fail
 refine (nacellelaw08_cost.calls 30 50 80 _ aw_cost).mono ?_
 rintro e w31 ⟨rfl, hb⟩
 have HF' := Aside0.mk (HS.out _ _ hb HF.out)
 clear HF
 have HF := HF'
 clear HF'
 clear hb
 go_wp2_with fail
 refine (market_CheckBest.calls 100 A5 c5 sampleV 0 30 50 80 20 0 _ HF.out.2 HC5.out aw_check20).mono ?_
 rintro e w32 ⟨rfl, hb⟩
 have HF' := Aside0.mk (HS.out _ _ hb HF.out)
 clear HF
 have HF := HF'
 clear HF'
 clear hb
 go_wp2_with fail
 refine (nacellelaw08_sample.calls sampleV _ aw_sample).mono ?_
 rintro e w33 ⟨v_, rfl, ho, hb⟩
 obtain ⟨A6, c6, rfl⟩ := Kd.N_slice ho
 obtain ⟨_, hc6, hC⟩ := Kd.N_reads' ho
 have HC6 := Aside0.mk hc6
 have HF' := Aside0.mk (HS.out _ _ hb HF.out)
 clear HF
 have HF := HF'
 clear HF'
 have HS' := Aside0.mk (Stable.and HS.out (Stable.C k156 A6 sampleV.length sampleV))
 have HF' := Aside0.mk (And.intro HF.out (hC))
 clear HS HF
 have HS := HS'
 have HF := HF'
 clear HS' HF'
 clear hb ho hC hc6
 go_wp2_with fail
 refine (nacellelaw08_cost.calls 30 50 80 _ aw_cost).mono ?_
 rintro e w34 ⟨rfl, hb⟩
 have HF' := Aside0.mk (HS.out _ _ hb HF.out)
 clear HF
 have HF := HF'
 clear HF'
 clear hb
 go_wp2_with fail
 refine (market_CheckBest.calls 100 A6 c6 sampleV 0 30 50 80 10 22 _ HF.out.2 HC6.out aw_check10).mono ?_
 rintro e w35 ⟨rfl, hb⟩
 have HF' := Aside0.mk (HS.out _ _ hb HF.out)
 clear HF
 have HF := HF'
 clear HF'
 clear hb
 go_wp2_with fail
 go_ret
 exact ⟨rfl, HF.out.1.1.1.1.1.1.1.1.1.1.1.1.1.1.1.1⟩
end Go.Proofs.YtfdlhbdcejlopaaGreatDoor.B
namespace Go.Proofs.YtfdlhbdcejlopaaGreatDoor.B
open Go.RowKit Go.Proofs.YtfdlhbdcejlopaaGreatDoorW.PrintWords Go.Proofs.YtfdlhbdcejlopaaGreatDoorW.PrintLast Go.Proofs.YtfdlhbdcejlopaaGreatDoorW.PrintMore
attribute [local go_sem] max2_int min2_int max_two min_two
set_option linter.unusedVariables false
set_option linter.unusedSimpArgs false
/-! ### nacellelaw08_MarketCurtails: function 5 -/
def nacellelaw08_MarketCurtails.j0 : Nat → List Int → Int → Bool → Option (Bool)
 | 0, _, _, _ => none
 | k + 1, x0, x1, x16 => if x16 = true then ((nacellelaw08_awake.f).bind fun t101 => (some t101)) else ((nacellelaw08_numbers.f x0).bind fun t102 => ((market_Curtail.f k t102 x1).bind fun bt105 => ((nacelleref08_CheckEach.f k x0 64 100000).bind fun t109 => ((nacelleref08_CheckRange.f x1 0 6400000).bind fun t110 => ((nacellelaw08_first.f k (([t109, t110] : List Int))).bind fun t114 => (if t114 = 0 then ((nacelleref08_Curtail.f k x0 x1).bind fun t115 => ((nacelleref01_SameInts.f k bt105.1 t115).bind fun t118 => (if t118 = true then (if bt105.2 = t114 then ((nacellelaw08_awake.f).bind fun t119 => (some t119)) else (some false)) else (some false)))) else ((nacelleref01_SameInts.f k bt105.1 ([] : List Int)).bind fun t120 => (if t120 = true then (if bt105.2 = t114 then ((nacellelaw08_awake.f).bind fun t121 => (some t121)) else (some false)) else (some false)))))))))
def nacellelaw08_MarketCurtails.f (k : Nat) (l0 : List Int) (a1 : Int) : Option (Bool) := if (l0.length : Int) > 10 then (nacellelaw08_MarketCurtails.j0 k l0 a1 ((l0.length : Int) != 65)) else (nacellelaw08_MarketCurtails.j0 k l0 a1 false)
set_option maxHeartbeats 8000000 in
set_option maxRecDepth 100000 in
theorem nacellelaw08_MarketCurtails.calls (k : Nat) (A0 : Option Addr) (c0 : Nat) (l0 : List Int) (a1 : Int) (r : Bool) (w : World) (hr0 : Kd.C (Kd.int .i64) w A0 l0.length l0) (hc0 : l0.length ≤ c0) (h : nacellelaw08_MarketCurtails.f k l0 a1 = some r) :
  Calls Tryz.prog 5 #[.slice A0 l0.length c0, .int .i64 a1] w fun e w' => e = .returned (.bool r) ∧ Below w.heap.size w w' := by
 have HR0 := Aside0.mk hr0
 have HC0 := Aside0.mk hc0
 clear hr0 hc0
 have HB := Aside0.mk (Below.refl w.heap.size w)
 have H : (if (l0.length : Int) > 10 then (nacellelaw08_MarketCurtails.j0 k l0 a1 ((l0.length : Int) != 65)) else (nacellelaw08_MarketCurtails.j0 k l0 a1 false)) = some r := h
 clear h
 have HC3 := Aside0.mk H
 clear H
 go_enter Tryz.func5, Tryz.ntmps5
 go_upto_region 1 with (fail)
 go_cut [16] (fun v16 wc => ∃ (kq : Nat) (x16_2 : Bool), v16 = .bool x16_2 ∧ Aside0 (nacellelaw08_MarketCurtails.j0 kq l0 a1 x16_2 = some r) ∧ Aside0 (kq ≤ k) ∧ Aside0 (Below w.heap.size w wc))
 case first =>
  have H := HC3.out
  clear HC3
  by_cases c4 : (l0.length : Int) > 10
  ·rw [if_pos c4] at H
   have c4b0 : decide (10 < (l0.length : Int)) = true := decide_eq_true c4
   have c4b1 : decide (10 < l0.length) = true := decide_eq_true (by omega)
   clear c4
   (first | rw [c4b0] | (simp only [i64_w, i32_w]; rw [c4b0]) | skip)
   have H' := Aside0.mk H
   clear H
   go_wp2
   go_meet
   case rel => exact ⟨_, (((l0.length : Int) != 65)), (by first | rfl | (simp; done) | (simp [*]; done)), H', ⟨by first | omega | exact Nat.le_refl _⟩, ⟨by repeat (first | (with_reducible first | exact HB.out | apply below_alloc | apply pw_below_drewN | apply below_drew1) | exact HB.out)⟩⟩
  ·rw [if_neg c4] at H
   have c4b0 : decide (10 < (l0.length : Int)) = false := decide_eq_false c4
   have c4b1 : decide (10 < l0.length) = false := decide_eq_false (by omega)
   clear c4
   (first | rw [c4b0] | (simp only [i64_w, i32_w]; rw [c4b0]) | skip)
   have H' := Aside0.mk H
   clear H
   go_wp2
   go_meet
   case rel => exact ⟨_, (false), (by first | rfl | (simp; done) | (simp [*]; done)), H', ⟨by first | omega | exact Nat.le_refl _⟩, ⟨by repeat (first | (with_reducible first | exact HB.out | apply below_alloc | apply pw_below_drewN | apply below_drew1) | exact HB.out)⟩⟩
 case rest =>
  clear HC3
  try clear p2
  try clear c4
  try clear c4b0
  try clear c4b1
  obtain ⟨kq, x16_2, rfl, HA, HJ2, HB⟩ := hcut
  cases kq with
  | zero => exact absurd HA.out (by simp [nacellelaw08_MarketCurtails.j0])
  | succ kj2 =>
   have H := HA.out
   clear HA
   simp only [nacellelaw08_MarketCurtails.j0] at H
   by_cases c5 : x16_2 = true
   ·subst c5
    have H1 : ((nacellelaw08_awake.f).bind fun t101 => (some t101)) = some r := by rw [if_pos rfl] at H; exact H
    clear H
    have H := H1
    clear H1
    replace H := Option.bind_eq_some_iff.mp H
    obtain ⟨t101, A60, H⟩ := H
    replace H : (some t101) = some r := H
    have A6 := Aside0.mk A60
    clear A60
    obtain rfl := Option.some.inj H
    go_wp2_with (first | ((with_reducible refine gate_callee (f := 18) rfl ?_); refine gl_ (some 17) Tryz.func18 #[] ?_; (with_reducible refine (nacellelaw08_awake.calls  t101 _ A6.out).mono ?_); rintro e w7 ⟨rfl, hb⟩; refine ⟨_, rfl, ?_⟩; have n0_ := Aside0.mk (below_step (ws_ HB.out) hb); clear HB; have HB := n0_; clear n0_; (try clear hb); (try clear hb2); (try clear hk); (try clear hi)))
    go_ret
    exact ⟨by first | rfl | (simp [errW_none, errW_some] <;> rfl) | (simp [*, errW_none, errW_some] <;> rfl), by repeat (first | (with_reducible first | exact HB.out | apply below_alloc | apply pw_below_drewN | apply below_drew1) | exact HB.out)⟩
   ·replace c5 := Bool.eq_false_iff.mpr c5
    subst c5
    have H1 : ((nacellelaw08_numbers.f l0).bind fun t102 => ((market_Curtail.f kj2 t102 a1).bind fun bt105 => ((nacelleref08_CheckEach.f kj2 l0 64 100000).bind fun t109 => ((nacelleref08_CheckRange.f a1 0 6400000).bind fun t110 => ((nacellelaw08_first.f kj2 (([t109, t110] : List Int))).bind fun t114 => (if t114 = 0 then ((nacelleref08_Curtail.f kj2 l0 a1).bind fun t115 => ((nacelleref01_SameInts.f kj2 bt105.1 t115).bind fun t118 => (if t118 = true then (if bt105.2 = t114 then ((nacellelaw08_awake.f).bind fun t119 => (some t119)) else (some false)) else (some false)))) else ((nacelleref01_SameInts.f kj2 bt105.1 ([] : List Int)).bind fun t120 => (if t120 = true then (if bt105.2 = t114 then ((nacellelaw08_awake.f).bind fun t121 => (some t121)) else (some false)) else (some false))))))))) = some r := by rw [if_neg (show ¬ (false = true) by decide)] at H; exact H
    clear H
    have H := H1
    clear H1
    replace H := Option.bind_eq_some_iff.mp H
    obtain ⟨t102, A80, H⟩ := H
    replace H : ((market_Curtail.f kj2 t102 a1).bind fun bt105 => ((nacelleref08_CheckEach.f kj2 l0 64 100000).bind fun t109 => ((nacelleref08_CheckRange.f a1 0 6400000).bind fun t110 => ((nacellelaw08_first.f kj2 (([t109, t110] : List Int))).bind fun t114 => (if t114 = 0 then ((nacelleref08_Curtail.f kj2 l0 a1).bind fun t115 => ((nacelleref01_SameInts.f kj2 bt105.1 t115).bind fun t118 => (if t118 = true then (if bt105.2 = t114 then ((nacellelaw08_awake.f).bind fun t119 => (some t119)) else (some false)) else (some false)))) else ((nacelleref01_SameInts.f kj2 bt105.1 ([] : List Int)).bind fun t120 => (if t120 = true then (if bt105.2 = t114 then ((nacellelaw08_awake.f).bind fun t121 => (some t121)) else (some false)) else (some false)))))))) = some r := H
    have A8 := Aside0.mk A80
    clear A80
    replace H := Option.bind_eq_some_iff.mp H
    obtain ⟨⟨t105, t106⟩, A90, H⟩ := H
    replace H : ((nacelleref08_CheckEach.f kj2 l0 64 100000).bind fun t109 => ((nacelleref08_CheckRange.f a1 0 6400000).bind fun t110 => ((nacellelaw08_first.f kj2 (([t109, t110] : List Int))).bind fun t114 => (if t114 = 0 then ((nacelleref08_Curtail.f kj2 l0 a1).bind fun t115 => ((nacelleref01_SameInts.f kj2 t105 t115).bind fun t118 => (if t118 = true then (if t106 = t114 then ((nacellelaw08_awake.f).bind fun t119 => (some t119)) else (some false)) else (some false)))) else ((nacelleref01_SameInts.f kj2 t105 ([] : List Int)).bind fun t120 => (if t120 = true then (if t106 = t114 then ((nacellelaw08_awake.f).bind fun t121 => (some t121)) else (some false)) else (some false))))))) = some r := H
    have A9 := Aside0.mk A90
    clear A90
    replace H := Option.bind_eq_some_iff.mp H
    obtain ⟨t109, A100, H⟩ := H
    replace H : ((nacelleref08_CheckRange.f a1 0 6400000).bind fun t110 => ((nacellelaw08_first.f kj2 (([t109, t110] : List Int))).bind fun t114 => (if t114 = 0 then ((nacelleref08_Curtail.f kj2 l0 a1).bind fun t115 => ((nacelleref01_SameInts.f kj2 t105 t115).bind fun t118 => (if t118 = true then (if t106 = t114 then ((nacellelaw08_awake.f).bind fun t119 => (some t119)) else (some false)) else (some false)))) else ((nacelleref01_SameInts.f kj2 t105 ([] : List Int)).bind fun t120 => (if t120 = true then (if t106 = t114 then ((nacellelaw08_awake.f).bind fun t121 => (some t121)) else (some false)) else (some false)))))) = some r := H
    have A10 := Aside0.mk A100
    clear A100
    replace H := Option.bind_eq_some_iff.mp H
    obtain ⟨t110, A110, H⟩ := H
    replace H : ((nacellelaw08_first.f kj2 (([t109, t110] : List Int))).bind fun t114 => (if t114 = 0 then ((nacelleref08_Curtail.f kj2 l0 a1).bind fun t115 => ((nacelleref01_SameInts.f kj2 t105 t115).bind fun t118 => (if t118 = true then (if t106 = t114 then ((nacellelaw08_awake.f).bind fun t119 => (some t119)) else (some false)) else (some false)))) else ((nacelleref01_SameInts.f kj2 t105 ([] : List Int)).bind fun t120 => (if t120 = true then (if t106 = t114 then ((nacellelaw08_awake.f).bind fun t121 => (some t121)) else (some false)) else (some false))))) = some r := H
    have A11 := Aside0.mk A110
    clear A110
    obtain ⟨y111, hy111⟩ : ∃ y_ : List Int, y_ = (([t109, t110] : List Int)) := ⟨_, rfl⟩
    replace H : ((nacellelaw08_first.f kj2 y111).bind fun t114 => (if t114 = 0 then ((nacelleref08_Curtail.f kj2 l0 a1).bind fun t115 => ((nacelleref01_SameInts.f kj2 t105 t115).bind fun t118 => (if t118 = true then (if t106 = t114 then ((nacellelaw08_awake.f).bind fun t119 => (some t119)) else (some false)) else (some false)))) else ((nacelleref01_SameInts.f kj2 t105 ([] : List Int)).bind fun t120 => (if t120 = true then (if t106 = t114 then ((nacellelaw08_awake.f).bind fun t121 => (some t121)) else (some false)) else (some false))))) = some r := by first | (rw [hy111]; with_reducible exact H) | (have H2_ := (Option.bind_some _ _).symm.trans H; rw [hy111]; with_reducible exact H2_) | (have H2_ := (Option.bind_some _ _).symm.trans H; with_reducible exact H2_) | with_reducible exact H | (rw [hy111]; exact H) | exact H
    have Ny111 := Aside0.mk hy111
    clear hy111
    replace H := Option.bind_eq_some_iff.mp H
    obtain ⟨t114, A120, H⟩ := H
    replace H : (if t114 = 0 then ((nacelleref08_Curtail.f kj2 l0 a1).bind fun t115 => ((nacelleref01_SameInts.f kj2 t105 t115).bind fun t118 => (if t118 = true then (if t106 = t114 then ((nacellelaw08_awake.f).bind fun t119 => (some t119)) else (some false)) else (some false)))) else ((nacelleref01_SameInts.f kj2 t105 ([] : List Int)).bind fun t120 => (if t120 = true then (if t106 = t114 then ((nacellelaw08_awake.f).bind fun t121 => (some t121)) else (some false)) else (some false)))) = some r := H
    have A12 := Aside0.mk A120
    clear A120
    by_cases c13 : t114 = 0
    ·rw [if_pos c13] at H
     have c13b0 : (t114 == 0) = true := beq_iff_eq.mpr c13
     have c13b1 : (t114 != 0) = false := bne_eq_false_iff_eq.mpr c13
     clear c13
     replace H := Option.bind_eq_some_iff.mp H
     obtain ⟨t115, A140, H⟩ := H
     replace H : ((nacelleref01_SameInts.f kj2 t105 t115).bind fun t118 => (if t118 = true then (if t106 = t114 then ((nacellelaw08_awake.f).bind fun t119 => (some t119)) else (some false)) else (some false))) = some r := H
     have A14 := Aside0.mk A140
     clear A140
     replace H := Option.bind_eq_some_iff.mp H
     obtain ⟨t118, A150, H⟩ := H
     replace H : (if t118 = true then (if t106 = t114 then ((nacellelaw08_awake.f).bind fun t119 => (some t119)) else (some false)) else (some false)) = some r := H
     have A15 := Aside0.mk A150
     clear A150
     by_cases c16 : t118 = true
     ·subst c16
      have H1 : (if t106 = t114 then ((nacellelaw08_awake.f).bind fun t119 => (some t119)) else (some false)) = some r := by rw [if_pos rfl] at H; exact H
      clear H
      have H := H1
      clear H1
      by_cases c17 : t106 = t114
      ·rw [if_pos c17] at H
       have c17b0 : (t106 == t114) = true := beq_iff_eq.mpr c17
       have c17b1 : (t106 != t114) = false := bne_eq_false_iff_eq.mpr c17
       clear c17
       replace H := Option.bind_eq_some_iff.mp H
       obtain ⟨t119, A180, H⟩ := H
       replace H : (some t119) = some r := H
       have A18 := Aside0.mk A180
       clear A180
       obtain rfl := Option.some.inj H
       go_wp2_with (first | ((with_reducible refine gate_callee (f := 36) rfl ?_); refine gl_ (some 20) Tryz.func36 #[.slice A0 l0.length c0] ?_; (with_reducible refine (nacellelaw08_numbers.calls _ _ l0 t102 _ ?side1 ?side2 A8.out).mono ?_); (case side1 => exact cs_ (Kd.C_below HR0.out HB.out)); (case side2 => exact HC0.out); rintro e w19 ⟨v103, rfl, ho0, hb⟩; refine ⟨_, rfl, ?_⟩; have n0_ := Aside0.mk (Kd.R_lower ho0 (below_size (ws_ HB.out))); have n1_ := Aside0.mk (below_step (ws_ HB.out) hb); clear HB; have HO104 := n0_; have HB := n1_; clear n0_ n1_; (try clear hb); (try clear hb2); (try clear hk); (try clear hi); (try clear ho0); obtain ⟨Ao20, co20, eo20⟩ := Kd.R_slice HO104.out; subst eo20) | ((with_reducible refine gate_callee (f := 35) rfl ?_); refine gl_ (some 22) Tryz.func35 #[.slice Ao20 t102.length co20, .int .i64 a1] ?_; (with_reducible refine (market_Curtail.calls kj2 _ _ t102 a1 t105 t106 _ ?side1 ?side2 A9.out).mono ?_); (case side1 => repeat (first | exact (Kd.R_reads' HO104.out).2.2 | (with_reducible refine Kd.C_alloc ?_ _) | (with_reducible refine Kd.C_drewN ?_ _) | (with_reducible refine Kd.C_drew ?_))); (case side2 => exact (Kd.R_reads' HO104.out).2.1); rintro e w21 ⟨v107, rfl, ho0, hb⟩; refine ⟨_, rfl, ?_⟩; have n0_ := Aside0.mk (Kd.R_elder' (rs_ HO104.out) (Kd.R_base ho0) hb); have n1_ := Aside0.mk (Kd.R_lower (Kd.R_new' ho0 (Kd.R_lt (rs_ HO104.out))) (below_size (ws_ HB.out))); have n2_ := Aside0.mk (below_step (ws_ HB.out) hb); clear HO104; clear HB; have HO104 := n0_; have HO108 := n1_; have HB := n2_; clear n0_ n1_ n2_; (try clear hb); (try clear hb2); (try clear hk); (try clear hi); (try clear ho0)) | ((with_reducible refine gate_callee (f := 37) rfl ?_); refine gl_ (some 26) Tryz.func37 #[.slice A0 l0.length c0, .int .i64 64, .int .i64 100000] ?_; (with_reducible refine (nacelleref08_CheckEach.calls kj2 _ _ l0 64 100000 t109 _ ?side1 ?side2 A10.out).mono ?_); (case side1 => exact cs_ (Kd.C_below HR0.out HB.out)); (case side2 => exact HC0.out); rintro e w' ⟨rfl, ⟨nd, rfl⟩⟩; refine ⟨_, rfl, ?_⟩) | ((with_reducible refine gate_callee (f := 22) rfl ?_); refine gl_ (some 28) Tryz.func22 #[.int .i64 a1, .int .i64 0, .int .i64 6400000] ?_; (with_reducible refine (nacelleref08_CheckRange.calls a1 0 6400000 t110 _ A11.out).mono ?_); rintro e w' ⟨rfl, ⟨nd, rfl⟩⟩; refine ⟨_, rfl, ?_⟩) | ((with_reducible refine gate_dst (N := 29) rfl ?_); (try (refine gate_guard (by rfl) ?_; dsimp only)); refine Kd.R_lit (Kd.int .i64) _ 3 ?hg (N := 29) ?hd (xs := ([t109, t110] : List Int)) (inner := [.int .i64 t109, .int .i64 t110]) (ok := fun _ => True) (okp := fun _ => True) ?hr ?hp (fun _ hk => hk) trivial (Below.refl _ _) (Nat.le_refl _) (by simp) ?_; (case hd => rfl); (case hg => rfl); (case hr => first | (go_simp; done) | (go_simp; rfl)); (case hp => exact (Reps.one (show Kd.M (Kd.int .i64) _ _ _ t109 [.int .i64 t109] from rfl) (Reps.one (show Kd.M (Kd.int .i64) _ _ _ t110 [.int .i64 t110] from rfl) (Reps.none _ _)))); intro v112 w22 ho23 hb hg_ hnew_; clear hg_ hnew_; (first | rw [← Ny111.out] at ho23 | (simp only [Int.reduceToNat] at ho23; rw [← Ny111.out] at ho23)); have n0_ := Aside0.mk (Kd.R_elder' (rs_ HO104.out) (Kd.R_base ho23) hb); have n1_ := Aside0.mk (Kd.R_elder' (rs_ HO108.out) (Kd.R_base ho23) hb); have n2_ := Aside0.mk (Kd.R_lower (Kd.R_new' (Kd.R_new' ho23 (Kd.R_lt (rs_ HO104.out))) (Kd.R_lt (rs_ HO108.out))) (below_size (ws_ HB.out))); have n3_ := Aside0.mk (below_step (ws_ HB.out) hb); clear HO104; clear HO108; clear HB; have HO104 := n0_; have HO108 := n1_; have HO113 := n2_; have HB := n3_; clear n0_ n1_ n2_ n3_; clear hb ho23; obtain ⟨Ao24, co24, eo24⟩ := Kd.R_slice HO113.out; subst eo24) | ((with_reducible refine gate_callee (f := 20) rfl ?_); refine gl_ (some 30) Tryz.func20 #[.slice Ao24 y111.length co24] ?_; (with_reducible refine (nacellelaw08_first.calls kj2 _ _ y111 t114 _ ?side1 ?side2 A12.out).mono ?_); (case side1 => repeat (first | exact (Kd.R_reads' HO113.out).2.2 | (with_reducible refine Kd.C_alloc ?_ _) | (with_reducible refine Kd.C_drewN ?_ _) | (with_reducible refine Kd.C_drew ?_))); (case side2 => exact (Kd.R_reads' HO113.out).2.1); rintro e w' ⟨rfl, ⟨nd, rfl⟩⟩; refine ⟨_, rfl, ?_⟩) | ((with_reducible refine gate_callee (f := 38) rfl ?_); refine gl_ (some 35) Tryz.func38 #[.slice A0 l0.length c0, .int .i64 a1] ?_; (with_reducible refine (nacelleref08_Curtail.calls kj2 _ _ l0 a1 t115 _ ?side1 ?side2 A14.out).mono ?_); (case side1 => repeat (first | exact (Kd.C_below HR0.out (ws_ HB.out)) | (with_reducible refine Kd.C_alloc ?_ _) | (with_reducible refine Kd.C_drewN ?_ _) | (with_reducible refine Kd.C_drew ?_))); (case side2 => exact HC0.out); rintro e w25 ⟨v116, rfl, ho0, hb⟩; refine ⟨_, rfl, ?_⟩; have n0_ := Aside0.mk (Kd.R_elder' (rs_ HO104.out) (Kd.R_base ho0) hb); have n1_ := Aside0.mk (Kd.R_elder' (rs_ HO108.out) (Kd.R_base ho0) hb); have n2_ := Aside0.mk (Kd.R_elder' (rs_ HO113.out) (Kd.R_base ho0) hb); have n3_ := Aside0.mk (Kd.R_lower (Kd.R_new' (Kd.R_new' (Kd.R_new' ho0 (Kd.R_lt (rs_ HO104.out))) (Kd.R_lt (rs_ HO108.out))) (Kd.R_lt (rs_ HO113.out))) (below_size (ws_ HB.out))); have n4_ := Aside0.mk (below_step (ws_ HB.out) hb); clear HO104; clear HO108; clear HO113; clear HB; have HO104 := n0_; have HO108 := n1_; have HO113 := n2_; have HO117 := n3_; have HB := n4_; clear n0_ n1_ n2_ n3_ n4_; (try clear hb); (try clear hb2); (try clear hk); (try clear hi); (try clear ho0); obtain ⟨Ao26, co26, eo26⟩ := Kd.R_slice HO108.out; subst eo26; obtain ⟨Ao27, co27, eo27⟩ := Kd.R_slice HO117.out; subst eo27) | ((with_reducible refine gate_callee (f := 39) rfl ?_); refine gl_ (some 38) Tryz.func39 #[.slice Ao26 t105.length co26, .slice Ao27 t115.length co27] ?_; (with_reducible refine (nacelleref01_SameInts.calls kj2 _ _ t105 _ _ t115 true _ ?side1 ?side2 ?side3 ?side4 A15.out).mono ?_); (case side1 => repeat (first | exact (Kd.R_reads' HO108.out).2.2 | (with_reducible refine Kd.C_alloc ?_ _) | (with_reducible refine Kd.C_drewN ?_ _) | (with_reducible refine Kd.C_drew ?_))); (case side2 => exact (Kd.R_reads' HO108.out).2.1); (case side3 => repeat (first | exact (Kd.R_reads' HO117.out).2.2 | (with_reducible refine Kd.C_alloc ?_ _) | (with_reducible refine Kd.C_drewN ?_ _) | (with_reducible refine Kd.C_drew ?_))); (case side4 => exact (Kd.R_reads' HO117.out).2.1); rintro e w' ⟨rfl, ⟨nd, rfl⟩⟩; refine ⟨_, rfl, ?_⟩) | (go_at_call 18; (with_reducible refine (nacellelaw08_awake.calls  t119 _ A18.out).mono ?_); rintro e w28 ⟨rfl, hb⟩; have n0_ := Aside0.mk (Kd.R_below (rs_ HO104.out) hb); have n1_ := Aside0.mk (Kd.R_below (rs_ HO108.out) hb); have n2_ := Aside0.mk (Kd.R_below (rs_ HO113.out) hb); have n3_ := Aside0.mk (Kd.R_below (rs_ HO117.out) hb); have n4_ := Aside0.mk (below_step (ws_ HB.out) hb); clear HO104; clear HO108; clear HO113; clear HO117; clear HB; have HO104 := n0_; have HO108 := n1_; have HO113 := n2_; have HO117 := n3_; have HB := n4_; clear n0_ n1_ n2_ n3_ n4_; (try clear hb); (try clear hb2); (try clear hk); (try clear hi)))
       go_ret
       exact ⟨by first | rfl | (simp [errW_none, errW_some] <;> rfl) | (simp [*, errW_none, errW_some] <;> rfl), by repeat (first | (with_reducible first | exact HB.out | apply below_alloc | apply pw_below_drewN | apply below_drew1) | exact HB.out)⟩
      ·rw [if_neg c17] at H
       have c17b0 : (t106 == t114) = false := beq_eq_false_iff_ne.mpr c17
       have c17b1 : (t106 != t114) = true := bne_iff_ne.mpr c17
       obtain rfl := Option.some.inj H
       go_wp2_with (first | ((with_reducible refine gate_callee (f := 36) rfl ?_); refine gl_ (some 20) Tryz.func36 #[.slice A0 l0.length c0] ?_; (with_reducible refine (nacellelaw08_numbers.calls _ _ l0 t102 _ ?side1 ?side2 A8.out).mono ?_); (case side1 => exact cs_ (Kd.C_below HR0.out HB.out)); (case side2 => exact HC0.out); rintro e w29 ⟨v103, rfl, ho0, hb⟩; refine ⟨_, rfl, ?_⟩; have n0_ := Aside0.mk (Kd.R_lower ho0 (below_size (ws_ HB.out))); have n1_ := Aside0.mk (below_step (ws_ HB.out) hb); clear HB; have HO104 := n0_; have HB := n1_; clear n0_ n1_; (try clear hb); (try clear hb2); (try clear hk); (try clear hi); (try clear ho0); obtain ⟨Ao30, co30, eo30⟩ := Kd.R_slice HO104.out; subst eo30) | ((with_reducible refine gate_callee (f := 35) rfl ?_); refine gl_ (some 22) Tryz.func35 #[.slice Ao30 t102.length co30, .int .i64 a1] ?_; (with_reducible refine (market_Curtail.calls kj2 _ _ t102 a1 t105 t106 _ ?side1 ?side2 A9.out).mono ?_); (case side1 => repeat (first | exact (Kd.R_reads' HO104.out).2.2 | (with_reducible refine Kd.C_alloc ?_ _) | (with_reducible refine Kd.C_drewN ?_ _) | (with_reducible refine Kd.C_drew ?_))); (case side2 => exact (Kd.R_reads' HO104.out).2.1); rintro e w31 ⟨v107, rfl, ho0, hb⟩; refine ⟨_, rfl, ?_⟩; have n0_ := Aside0.mk (Kd.R_elder' (rs_ HO104.out) (Kd.R_base ho0) hb); have n1_ := Aside0.mk (Kd.R_lower (Kd.R_new' ho0 (Kd.R_lt (rs_ HO104.out))) (below_size (ws_ HB.out))); have n2_ := Aside0.mk (below_step (ws_ HB.out) hb); clear HO104; clear HB; have HO104 := n0_; have HO108 := n1_; have HB := n2_; clear n0_ n1_ n2_; (try clear hb); (try clear hb2); (try clear hk); (try clear hi); (try clear ho0)) | ((with_reducible refine gate_callee (f := 37) rfl ?_); refine gl_ (some 26) Tryz.func37 #[.slice A0 l0.length c0, .int .i64 64, .int .i64 100000] ?_; (with_reducible refine (nacelleref08_CheckEach.calls kj2 _ _ l0 64 100000 t109 _ ?side1 ?side2 A10.out).mono ?_); (case side1 => exact cs_ (Kd.C_below HR0.out HB.out)); (case side2 => exact HC0.out); rintro e w' ⟨rfl, ⟨nd, rfl⟩⟩; refine ⟨_, rfl, ?_⟩) | ((with_reducible refine gate_callee (f := 22) rfl ?_); refine gl_ (some 28) Tryz.func22 #[.int .i64 a1, .int .i64 0, .int .i64 6400000] ?_; (with_reducible refine (nacelleref08_CheckRange.calls a1 0 6400000 t110 _ A11.out).mono ?_); rintro e w' ⟨rfl, ⟨nd, rfl⟩⟩; refine ⟨_, rfl, ?_⟩) | ((with_reducible refine gate_dst (N := 29) rfl ?_); (try (refine gate_guard (by rfl) ?_; dsimp only)); refine Kd.R_lit (Kd.int .i64) _ 3 ?hg (N := 29) ?hd (xs := ([t109, t110] : List Int)) (inner := [.int .i64 t109, .int .i64 t110]) (ok := fun _ => True) (okp := fun _ => True) ?hr ?hp (fun _ hk => hk) trivial (Below.refl _ _) (Nat.le_refl _) (by simp) ?_; (case hd => rfl); (case hg => rfl); (case hr => first | (go_simp; done) | (go_simp; rfl)); (case hp => exact (Reps.one (show Kd.M (Kd.int .i64) _ _ _ t109 [.int .i64 t109] from rfl) (Reps.one (show Kd.M (Kd.int .i64) _ _ _ t110 [.int .i64 t110] from rfl) (Reps.none _ _)))); intro v112 w32 ho33 hb hg_ hnew_; clear hg_ hnew_; (first | rw [← Ny111.out] at ho33 | (simp only [Int.reduceToNat] at ho33; rw [← Ny111.out] at ho33)); have n0_ := Aside0.mk (Kd.R_elder' (rs_ HO104.out) (Kd.R_base ho33) hb); have n1_ := Aside0.mk (Kd.R_elder' (rs_ HO108.out) (Kd.R_base ho33) hb); have n2_ := Aside0.mk (Kd.R_lower (Kd.R_new' (Kd.R_new' ho33 (Kd.R_lt (rs_ HO104.out))) (Kd.R_lt (rs_ HO108.out))) (below_size (ws_ HB.out))); have n3_ := Aside0.mk (below_step (ws_ HB.out) hb); clear HO104; clear HO108; clear HB; have HO104 := n0_; have HO108 := n1_; have HO113 := n2_; have HB := n3_; clear n0_ n1_ n2_ n3_; clear hb ho33; obtain ⟨Ao34, co34, eo34⟩ := Kd.R_slice HO113.out; subst eo34) | ((with_reducible refine gate_callee (f := 20) rfl ?_); refine gl_ (some 30) Tryz.func20 #[.slice Ao34 y111.length co34] ?_; (with_reducible refine (nacellelaw08_first.calls kj2 _ _ y111 t114 _ ?side1 ?side2 A12.out).mono ?_); (case side1 => repeat (first | exact (Kd.R_reads' HO113.out).2.2 | (with_reducible refine Kd.C_alloc ?_ _) | (with_reducible refine Kd.C_drewN ?_ _) | (with_reducible refine Kd.C_drew ?_))); (case side2 => exact (Kd.R_reads' HO113.out).2.1); rintro e w' ⟨rfl, ⟨nd, rfl⟩⟩; refine ⟨_, rfl, ?_⟩) | ((with_reducible refine gate_callee (f := 38) rfl ?_); refine gl_ (some 35) Tryz.func38 #[.slice A0 l0.length c0, .int .i64 a1] ?_; (with_reducible refine (nacelleref08_Curtail.calls kj2 _ _ l0 a1 t115 _ ?side1 ?side2 A14.out).mono ?_); (case side1 => repeat (first | exact (Kd.C_below HR0.out (ws_ HB.out)) | (with_reducible refine Kd.C_alloc ?_ _) | (with_reducible refine Kd.C_drewN ?_ _) | (with_reducible refine Kd.C_drew ?_))); (case side2 => exact HC0.out); rintro e w35 ⟨v116, rfl, ho0, hb⟩; refine ⟨_, rfl, ?_⟩; have n0_ := Aside0.mk (Kd.R_elder' (rs_ HO104.out) (Kd.R_base ho0) hb); have n1_ := Aside0.mk (Kd.R_elder' (rs_ HO108.out) (Kd.R_base ho0) hb); have n2_ := Aside0.mk (Kd.R_elder' (rs_ HO113.out) (Kd.R_base ho0) hb); have n3_ := Aside0.mk (Kd.R_lower (Kd.R_new' (Kd.R_new' (Kd.R_new' ho0 (Kd.R_lt (rs_ HO104.out))) (Kd.R_lt (rs_ HO108.out))) (Kd.R_lt (rs_ HO113.out))) (below_size (ws_ HB.out))); have n4_ := Aside0.mk (below_step (ws_ HB.out) hb); clear HO104; clear HO108; clear HO113; clear HB; have HO104 := n0_; have HO108 := n1_; have HO113 := n2_; have HO117 := n3_; have HB := n4_; clear n0_ n1_ n2_ n3_ n4_; (try clear hb); (try clear hb2); (try clear hk); (try clear hi); (try clear ho0); obtain ⟨Ao36, co36, eo36⟩ := Kd.R_slice HO108.out; subst eo36; obtain ⟨Ao37, co37, eo37⟩ := Kd.R_slice HO117.out; subst eo37) | ((with_reducible refine gate_callee (f := 39) rfl ?_); refine gl_ (some 38) Tryz.func39 #[.slice Ao36 t105.length co36, .slice Ao37 t115.length co37] ?_; (with_reducible refine (nacelleref01_SameInts.calls kj2 _ _ t105 _ _ t115 true _ ?side1 ?side2 ?side3 ?side4 A15.out).mono ?_); (case side1 => repeat (first | exact (Kd.R_reads' HO108.out).2.2 | (with_reducible refine Kd.C_alloc ?_ _) | (with_reducible refine Kd.C_drewN ?_ _) | (with_reducible refine Kd.C_drew ?_))); (case side2 => exact (Kd.R_reads' HO108.out).2.1); (case side3 => repeat (first | exact (Kd.R_reads' HO117.out).2.2 | (with_reducible refine Kd.C_alloc ?_ _) | (with_reducible refine Kd.C_drewN ?_ _) | (with_reducible refine Kd.C_drew ?_))); (case side4 => exact (Kd.R_reads' HO117.out).2.1); rintro e w' ⟨rfl, ⟨nd, rfl⟩⟩; refine ⟨_, rfl, ?_⟩))
       go_ret
       exact ⟨by first | rfl | (simp [errW_none, errW_some] <;> rfl) | (simp [*, errW_none, errW_some] <;> rfl), by repeat (first | (with_reducible first | exact HB.out | apply below_alloc | apply pw_below_drewN | apply below_drew1) | exact HB.out)⟩
     ·replace c16 := Bool.eq_false_iff.mpr c16
      subst c16
      have H1 : (some false) = some r := by rw [if_neg (show ¬ (false = true) by decide)] at H; exact H
      clear H
      have H := H1
      clear H1
      obtain rfl := Option.some.inj H
      go_wp2_with (first | ((with_reducible refine gate_callee (f := 36) rfl ?_); refine gl_ (some 20) Tryz.func36 #[.slice A0 l0.length c0] ?_; (with_reducible refine (nacellelaw08_numbers.calls _ _ l0 t102 _ ?side1 ?side2 A8.out).mono ?_); (case side1 => exact cs_ (Kd.C_below HR0.out HB.out)); (case side2 => exact HC0.out); rintro e w38 ⟨v103, rfl, ho0, hb⟩; refine ⟨_, rfl, ?_⟩; have n0_ := Aside0.mk (Kd.R_lower ho0 (below_size (ws_ HB.out))); have n1_ := Aside0.mk (below_step (ws_ HB.out) hb); clear HB; have HO104 := n0_; have HB := n1_; clear n0_ n1_; (try clear hb); (try clear hb2); (try clear hk); (try clear hi); (try clear ho0); obtain ⟨Ao39, co39, eo39⟩ := Kd.R_slice HO104.out; subst eo39) | ((with_reducible refine gate_callee (f := 35) rfl ?_); refine gl_ (some 22) Tryz.func35 #[.slice Ao39 t102.length co39, .int .i64 a1] ?_; (with_reducible refine (market_Curtail.calls kj2 _ _ t102 a1 t105 t106 _ ?side1 ?side2 A9.out).mono ?_); (case side1 => repeat (first | exact (Kd.R_reads' HO104.out).2.2 | (with_reducible refine Kd.C_alloc ?_ _) | (with_reducible refine Kd.C_drewN ?_ _) | (with_reducible refine Kd.C_drew ?_))); (case side2 => exact (Kd.R_reads' HO104.out).2.1); rintro e w40 ⟨v107, rfl, ho0, hb⟩; refine ⟨_, rfl, ?_⟩; have n0_ := Aside0.mk (Kd.R_elder' (rs_ HO104.out) (Kd.R_base ho0) hb); have n1_ := Aside0.mk (Kd.R_lower (Kd.R_new' ho0 (Kd.R_lt (rs_ HO104.out))) (below_size (ws_ HB.out))); have n2_ := Aside0.mk (below_step (ws_ HB.out) hb); clear HO104; clear HB; have HO104 := n0_; have HO108 := n1_; have HB := n2_; clear n0_ n1_ n2_; (try clear hb); (try clear hb2); (try clear hk); (try clear hi); (try clear ho0)) | ((with_reducible refine gate_callee (f := 37) rfl ?_); refine gl_ (some 26) Tryz.func37 #[.slice A0 l0.length c0, .int .i64 64, .int .i64 100000] ?_; (with_reducible refine (nacelleref08_CheckEach.calls kj2 _ _ l0 64 100000 t109 _ ?side1 ?side2 A10.out).mono ?_); (case side1 => exact cs_ (Kd.C_below HR0.out HB.out)); (case side2 => exact HC0.out); rintro e w' ⟨rfl, ⟨nd, rfl⟩⟩; refine ⟨_, rfl, ?_⟩) | ((with_reducible refine gate_callee (f := 22) rfl ?_); refine gl_ (some 28) Tryz.func22 #[.int .i64 a1, .int .i64 0, .int .i64 6400000] ?_; (with_reducible refine (nacelleref08_CheckRange.calls a1 0 6400000 t110 _ A11.out).mono ?_); rintro e w' ⟨rfl, ⟨nd, rfl⟩⟩; refine ⟨_, rfl, ?_⟩) | ((with_reducible refine gate_dst (N := 29) rfl ?_); (try (refine gate_guard (by rfl) ?_; dsimp only)); refine Kd.R_lit (Kd.int .i64) _ 3 ?hg (N := 29) ?hd (xs := ([t109, t110] : List Int)) (inner := [.int .i64 t109, .int .i64 t110]) (ok := fun _ => True) (okp := fun _ => True) ?hr ?hp (fun _ hk => hk) trivial (Below.refl _ _) (Nat.le_refl _) (by simp) ?_; (case hd => rfl); (case hg => rfl); (case hr => first | (go_simp; done) | (go_simp; rfl)); (case hp => exact (Reps.one (show Kd.M (Kd.int .i64) _ _ _ t109 [.int .i64 t109] from rfl) (Reps.one (show Kd.M (Kd.int .i64) _ _ _ t110 [.int .i64 t110] from rfl) (Reps.none _ _)))); intro v112 w41 ho42 hb hg_ hnew_; clear hg_ hnew_; (first | rw [← Ny111.out] at ho42 | (simp only [Int.reduceToNat] at ho42; rw [← Ny111.out] at ho42)); have n0_ := Aside0.mk (Kd.R_elder' (rs_ HO104.out) (Kd.R_base ho42) hb); have n1_ := Aside0.mk (Kd.R_elder' (rs_ HO108.out) (Kd.R_base ho42) hb); have n2_ := Aside0.mk (Kd.R_lower (Kd.R_new' (Kd.R_new' ho42 (Kd.R_lt (rs_ HO104.out))) (Kd.R_lt (rs_ HO108.out))) (below_size (ws_ HB.out))); have n3_ := Aside0.mk (below_step (ws_ HB.out) hb); clear HO104; clear HO108; clear HB; have HO104 := n0_; have HO108 := n1_; have HO113 := n2_; have HB := n3_; clear n0_ n1_ n2_ n3_; clear hb ho42; obtain ⟨Ao43, co43, eo43⟩ := Kd.R_slice HO113.out; subst eo43) | ((with_reducible refine gate_callee (f := 20) rfl ?_); refine gl_ (some 30) Tryz.func20 #[.slice Ao43 y111.length co43] ?_; (with_reducible refine (nacellelaw08_first.calls kj2 _ _ y111 t114 _ ?side1 ?side2 A12.out).mono ?_); (case side1 => repeat (first | exact (Kd.R_reads' HO113.out).2.2 | (with_reducible refine Kd.C_alloc ?_ _) | (with_reducible refine Kd.C_drewN ?_ _) | (with_reducible refine Kd.C_drew ?_))); (case side2 => exact (Kd.R_reads' HO113.out).2.1); rintro e w' ⟨rfl, ⟨nd, rfl⟩⟩; refine ⟨_, rfl, ?_⟩) | ((with_reducible refine gate_callee (f := 38) rfl ?_); refine gl_ (some 35) Tryz.func38 #[.slice A0 l0.length c0, .int .i64 a1] ?_; (with_reducible refine (nacelleref08_Curtail.calls kj2 _ _ l0 a1 t115 _ ?side1 ?side2 A14.out).mono ?_); (case side1 => repeat (first | exact (Kd.C_below HR0.out (ws_ HB.out)) | (with_reducible refine Kd.C_alloc ?_ _) | (with_reducible refine Kd.C_drewN ?_ _) | (with_reducible refine Kd.C_drew ?_))); (case side2 => exact HC0.out); rintro e w44 ⟨v116, rfl, ho0, hb⟩; refine ⟨_, rfl, ?_⟩; have n0_ := Aside0.mk (Kd.R_elder' (rs_ HO104.out) (Kd.R_base ho0) hb); have n1_ := Aside0.mk (Kd.R_elder' (rs_ HO108.out) (Kd.R_base ho0) hb); have n2_ := Aside0.mk (Kd.R_elder' (rs_ HO113.out) (Kd.R_base ho0) hb); have n3_ := Aside0.mk (Kd.R_lower (Kd.R_new' (Kd.R_new' (Kd.R_new' ho0 (Kd.R_lt (rs_ HO104.out))) (Kd.R_lt (rs_ HO108.out))) (Kd.R_lt (rs_ HO113.out))) (below_size (ws_ HB.out))); have n4_ := Aside0.mk (below_step (ws_ HB.out) hb); clear HO104; clear HO108; clear HO113; clear HB; have HO104 := n0_; have HO108 := n1_; have HO113 := n2_; have HO117 := n3_; have HB := n4_; clear n0_ n1_ n2_ n3_ n4_; (try clear hb); (try clear hb2); (try clear hk); (try clear hi); (try clear ho0); obtain ⟨Ao45, co45, eo45⟩ := Kd.R_slice HO108.out; subst eo45; obtain ⟨Ao46, co46, eo46⟩ := Kd.R_slice HO117.out; subst eo46) | ((with_reducible refine gate_callee (f := 39) rfl ?_); refine gl_ (some 38) Tryz.func39 #[.slice Ao45 t105.length co45, .slice Ao46 t115.length co46] ?_; (with_reducible refine (nacelleref01_SameInts.calls kj2 _ _ t105 _ _ t115 false _ ?side1 ?side2 ?side3 ?side4 A15.out).mono ?_); (case side1 => repeat (first | exact (Kd.R_reads' HO108.out).2.2 | (with_reducible refine Kd.C_alloc ?_ _) | (with_reducible refine Kd.C_drewN ?_ _) | (with_reducible refine Kd.C_drew ?_))); (case side2 => exact (Kd.R_reads' HO108.out).2.1); (case side3 => repeat (first | exact (Kd.R_reads' HO117.out).2.2 | (with_reducible refine Kd.C_alloc ?_ _) | (with_reducible refine Kd.C_drewN ?_ _) | (with_reducible refine Kd.C_drew ?_))); (case side4 => exact (Kd.R_reads' HO117.out).2.1); rintro e w' ⟨rfl, ⟨nd, rfl⟩⟩; refine ⟨_, rfl, ?_⟩))
      go_ret
      exact ⟨by first | rfl | (simp [errW_none, errW_some] <;> rfl) | (simp [*, errW_none, errW_some] <;> rfl), by repeat (first | (with_reducible first | exact HB.out | apply below_alloc | apply pw_below_drewN | apply below_drew1) | exact HB.out)⟩
    ·rw [if_neg c13] at H
     have c13b0 : (t114 == 0) = false := beq_eq_false_iff_ne.mpr c13
     have c13b1 : (t114 != 0) = true := bne_iff_ne.mpr c13
     replace H := Option.bind_eq_some_iff.mp H
     obtain ⟨t120, A470, H⟩ := H
     replace H : (if t120 = true then (if t106 = t114 then ((nacellelaw08_awake.f).bind fun t121 => (some t121)) else (some false)) else (some false)) = some r := H
     have A47 := Aside0.mk A470
     clear A470
     by_cases c48 : t120 = true
     ·subst c48
      have H1 : (if t106 = t114 then ((nacellelaw08_awake.f).bind fun t121 => (some t121)) else (some false)) = some r := by rw [if_pos rfl] at H; exact H
      clear H
      have H := H1
      clear H1
      by_cases c49 : t106 = t114
      ·rw [if_pos c49] at H
       have c49b0 : (t106 == t114) = true := beq_iff_eq.mpr c49
       have c49b1 : (t106 != t114) = false := bne_eq_false_iff_eq.mpr c49
       clear c49
       replace H := Option.bind_eq_some_iff.mp H
       obtain ⟨t121, A500, H⟩ := H
       replace H : (some t121) = some r := H
       have A50 := Aside0.mk A500
       clear A500
       obtain rfl := Option.some.inj H
       go_wp2_with (first | ((with_reducible refine gate_callee (f := 36) rfl ?_); refine gl_ (some 20) Tryz.func36 #[.slice A0 l0.length c0] ?_; (with_reducible refine (nacellelaw08_numbers.calls _ _ l0 t102 _ ?side1 ?side2 A8.out).mono ?_); (case side1 => exact cs_ (Kd.C_below HR0.out HB.out)); (case side2 => exact HC0.out); rintro e w51 ⟨v103, rfl, ho0, hb⟩; refine ⟨_, rfl, ?_⟩; have n0_ := Aside0.mk (Kd.R_lower ho0 (below_size (ws_ HB.out))); have n1_ := Aside0.mk (below_step (ws_ HB.out) hb); clear HB; have HO104 := n0_; have HB := n1_; clear n0_ n1_; (try clear hb); (try clear hb2); (try clear hk); (try clear hi); (try clear ho0); obtain ⟨Ao52, co52, eo52⟩ := Kd.R_slice HO104.out; subst eo52) | ((with_reducible refine gate_callee (f := 35) rfl ?_); refine gl_ (some 22) Tryz.func35 #[.slice Ao52 t102.length co52, .int .i64 a1] ?_; (with_reducible refine (market_Curtail.calls kj2 _ _ t102 a1 t105 t106 _ ?side1 ?side2 A9.out).mono ?_); (case side1 => repeat (first | exact (Kd.R_reads' HO104.out).2.2 | (with_reducible refine Kd.C_alloc ?_ _) | (with_reducible refine Kd.C_drewN ?_ _) | (with_reducible refine Kd.C_drew ?_))); (case side2 => exact (Kd.R_reads' HO104.out).2.1); rintro e w53 ⟨v107, rfl, ho0, hb⟩; refine ⟨_, rfl, ?_⟩; have n0_ := Aside0.mk (Kd.R_elder' (rs_ HO104.out) (Kd.R_base ho0) hb); have n1_ := Aside0.mk (Kd.R_lower (Kd.R_new' ho0 (Kd.R_lt (rs_ HO104.out))) (below_size (ws_ HB.out))); have n2_ := Aside0.mk (below_step (ws_ HB.out) hb); clear HO104; clear HB; have HO104 := n0_; have HO108 := n1_; have HB := n2_; clear n0_ n1_ n2_; (try clear hb); (try clear hb2); (try clear hk); (try clear hi); (try clear ho0)) | ((with_reducible refine gate_callee (f := 37) rfl ?_); refine gl_ (some 26) Tryz.func37 #[.slice A0 l0.length c0, .int .i64 64, .int .i64 100000] ?_; (with_reducible refine (nacelleref08_CheckEach.calls kj2 _ _ l0 64 100000 t109 _ ?side1 ?side2 A10.out).mono ?_); (case side1 => exact cs_ (Kd.C_below HR0.out HB.out)); (case side2 => exact HC0.out); rintro e w' ⟨rfl, ⟨nd, rfl⟩⟩; refine ⟨_, rfl, ?_⟩) | ((with_reducible refine gate_callee (f := 22) rfl ?_); refine gl_ (some 28) Tryz.func22 #[.int .i64 a1, .int .i64 0, .int .i64 6400000] ?_; (with_reducible refine (nacelleref08_CheckRange.calls a1 0 6400000 t110 _ A11.out).mono ?_); rintro e w' ⟨rfl, ⟨nd, rfl⟩⟩; refine ⟨_, rfl, ?_⟩) | ((with_reducible refine gate_dst (N := 29) rfl ?_); (try (refine gate_guard (by rfl) ?_; dsimp only)); refine Kd.R_lit (Kd.int .i64) _ 3 ?hg (N := 29) ?hd (xs := ([t109, t110] : List Int)) (inner := [.int .i64 t109, .int .i64 t110]) (ok := fun _ => True) (okp := fun _ => True) ?hr ?hp (fun _ hk => hk) trivial (Below.refl _ _) (Nat.le_refl _) (by simp) ?_; (case hd => rfl); (case hg => rfl); (case hr => first | (go_simp; done) | (go_simp; rfl)); (case hp => exact (Reps.one (show Kd.M (Kd.int .i64) _ _ _ t109 [.int .i64 t109] from rfl) (Reps.one (show Kd.M (Kd.int .i64) _ _ _ t110 [.int .i64 t110] from rfl) (Reps.none _ _)))); intro v112 w54 ho55 hb hg_ hnew_; clear hg_ hnew_; (first | rw [← Ny111.out] at ho55 | (simp only [Int.reduceToNat] at ho55; rw [← Ny111.out] at ho55)); have n0_ := Aside0.mk (Kd.R_elder' (rs_ HO104.out) (Kd.R_base ho55) hb); have n1_ := Aside0.mk (Kd.R_elder' (rs_ HO108.out) (Kd.R_base ho55) hb); have n2_ := Aside0.mk (Kd.R_lower (Kd.R_new' (Kd.R_new' ho55 (Kd.R_lt (rs_ HO104.out))) (Kd.R_lt (rs_ HO108.out))) (below_size (ws_ HB.out))); have n3_ := Aside0.mk (below_step (ws_ HB.out) hb); clear HO104; clear HO108; clear HB; have HO104 := n0_; have HO108 := n1_; have HO113 := n2_; have HB := n3_; clear n0_ n1_ n2_ n3_; clear hb ho55; obtain ⟨Ao56, co56, eo56⟩ := Kd.R_slice HO113.out; subst eo56) | ((with_reducible refine gate_callee (f := 20) rfl ?_); refine gl_ (some 30) Tryz.func20 #[.slice Ao56 y111.length co56] ?_; (with_reducible refine (nacellelaw08_first.calls kj2 _ _ y111 t114 _ ?side1 ?side2 A12.out).mono ?_); (case side1 => repeat (first | exact (Kd.R_reads' HO113.out).2.2 | (with_reducible refine Kd.C_alloc ?_ _) | (with_reducible refine Kd.C_drewN ?_ _) | (with_reducible refine Kd.C_drew ?_))); (case side2 => exact (Kd.R_reads' HO113.out).2.1); rintro e w' ⟨rfl, ⟨nd, rfl⟩⟩; refine ⟨_, rfl, ?_⟩; obtain ⟨Ao57, co57, eo57⟩ := Kd.R_slice HO108.out; subst eo57) | ((with_reducible refine gate_callee (f := 39) rfl ?_); refine gl_ (some 38) Tryz.func39 #[.slice Ao57 t105.length co57, .slice none 0 0] ?_; (refine (nacelleref01_SameInts.calls kj2 _ _ t105 _ _ ([] : List Int) true _ ?side1 ?side2 ?side3 ?side4 A47.out).mono ?_); (case side1 => repeat (first | exact (Kd.R_reads' HO108.out).2.2 | (with_reducible refine Kd.C_alloc ?_ _) | (with_reducible refine Kd.C_drewN ?_ _) | (with_reducible refine Kd.C_drew ?_))); (case side2 => exact (Kd.R_reads' HO108.out).2.1); (case side3 => exact Kd.C_nil _ _); (case side4 => exact Nat.le_refl _); rintro e w' ⟨rfl, ⟨nd, rfl⟩⟩; refine ⟨_, rfl, ?_⟩) | (go_at_call 18; (with_reducible refine (nacellelaw08_awake.calls  t121 _ A50.out).mono ?_); rintro e w58 ⟨rfl, hb⟩; have n0_ := Aside0.mk (Kd.R_below (rs_ HO104.out) hb); have n1_ := Aside0.mk (Kd.R_below (rs_ HO108.out) hb); have n2_ := Aside0.mk (Kd.R_below (rs_ HO113.out) hb); have n3_ := Aside0.mk (below_step (ws_ HB.out) hb); clear HO104; clear HO108; clear HO113; clear HB; have HO104 := n0_; have HO108 := n1_; have HO113 := n2_; have HB := n3_; clear n0_ n1_ n2_ n3_; (try clear hb); (try clear hb2); (try clear hk); (try clear hi)))
       go_ret
       exact ⟨by first | rfl | (simp [errW_none, errW_some] <;> rfl) | (simp [*, errW_none, errW_some] <;> rfl), by repeat (first | (with_reducible first | exact HB.out | apply below_alloc | apply pw_below_drewN | apply below_drew1) | exact HB.out)⟩
      ·rw [if_neg c49] at H
       have c49b0 : (t106 == t114) = false := beq_eq_false_iff_ne.mpr c49
       have c49b1 : (t106 != t114) = true := bne_iff_ne.mpr c49
       obtain rfl := Option.some.inj H
       go_wp2_with (first | ((with_reducible refine gate_callee (f := 36) rfl ?_); refine gl_ (some 20) Tryz.func36 #[.slice A0 l0.length c0] ?_; (with_reducible refine (nacellelaw08_numbers.calls _ _ l0 t102 _ ?side1 ?side2 A8.out).mono ?_); (case side1 => exact cs_ (Kd.C_below HR0.out HB.out)); (case side2 => exact HC0.out); rintro e w59 ⟨v103, rfl, ho0, hb⟩; refine ⟨_, rfl, ?_⟩; have n0_ := Aside0.mk (Kd.R_lower ho0 (below_size (ws_ HB.out))); have n1_ := Aside0.mk (below_step (ws_ HB.out) hb); clear HB; have HO104 := n0_; have HB := n1_; clear n0_ n1_; (try clear hb); (try clear hb2); (try clear hk); (try clear hi); (try clear ho0); obtain ⟨Ao60, co60, eo60⟩ := Kd.R_slice HO104.out; subst eo60) | ((with_reducible refine gate_callee (f := 35) rfl ?_); refine gl_ (some 22) Tryz.func35 #[.slice Ao60 t102.length co60, .int .i64 a1] ?_; (with_reducible refine (market_Curtail.calls kj2 _ _ t102 a1 t105 t106 _ ?side1 ?side2 A9.out).mono ?_); (case side1 => repeat (first | exact (Kd.R_reads' HO104.out).2.2 | (with_reducible refine Kd.C_alloc ?_ _) | (with_reducible refine Kd.C_drewN ?_ _) | (with_reducible refine Kd.C_drew ?_))); (case side2 => exact (Kd.R_reads' HO104.out).2.1); rintro e w61 ⟨v107, rfl, ho0, hb⟩; refine ⟨_, rfl, ?_⟩; have n0_ := Aside0.mk (Kd.R_elder' (rs_ HO104.out) (Kd.R_base ho0) hb); have n1_ := Aside0.mk (Kd.R_lower (Kd.R_new' ho0 (Kd.R_lt (rs_ HO104.out))) (below_size (ws_ HB.out))); have n2_ := Aside0.mk (below_step (ws_ HB.out) hb); clear HO104; clear HB; have HO104 := n0_; have HO108 := n1_; have HB := n2_; clear n0_ n1_ n2_; (try clear hb); (try clear hb2); (try clear hk); (try clear hi); (try clear ho0)) | ((with_reducible refine gate_callee (f := 37) rfl ?_); refine gl_ (some 26) Tryz.func37 #[.slice A0 l0.length c0, .int .i64 64, .int .i64 100000] ?_; (with_reducible refine (nacelleref08_CheckEach.calls kj2 _ _ l0 64 100000 t109 _ ?side1 ?side2 A10.out).mono ?_); (case side1 => exact cs_ (Kd.C_below HR0.out HB.out)); (case side2 => exact HC0.out); rintro e w' ⟨rfl, ⟨nd, rfl⟩⟩; refine ⟨_, rfl, ?_⟩) | ((with_reducible refine gate_callee (f := 22) rfl ?_); refine gl_ (some 28) Tryz.func22 #[.int .i64 a1, .int .i64 0, .int .i64 6400000] ?_; (with_reducible refine (nacelleref08_CheckRange.calls a1 0 6400000 t110 _ A11.out).mono ?_); rintro e w' ⟨rfl, ⟨nd, rfl⟩⟩; refine ⟨_, rfl, ?_⟩) | ((with_reducible refine gate_dst (N := 29) rfl ?_); (try (refine gate_guard (by rfl) ?_; dsimp only)); refine Kd.R_lit (Kd.int .i64) _ 3 ?hg (N := 29) ?hd (xs := ([t109, t110] : List Int)) (inner := [.int .i64 t109, .int .i64 t110]) (ok := fun _ => True) (okp := fun _ => True) ?hr ?hp (fun _ hk => hk) trivial (Below.refl _ _) (Nat.le_refl _) (by simp) ?_; (case hd => rfl); (case hg => rfl); (case hr => first | (go_simp; done) | (go_simp; rfl)); (case hp => exact (Reps.one (show Kd.M (Kd.int .i64) _ _ _ t109 [.int .i64 t109] from rfl) (Reps.one (show Kd.M (Kd.int .i64) _ _ _ t110 [.int .i64 t110] from rfl) (Reps.none _ _)))); intro v112 w62 ho63 hb hg_ hnew_; clear hg_ hnew_; (first | rw [← Ny111.out] at ho63 | (simp only [Int.reduceToNat] at ho63; rw [← Ny111.out] at ho63)); have n0_ := Aside0.mk (Kd.R_elder' (rs_ HO104.out) (Kd.R_base ho63) hb); have n1_ := Aside0.mk (Kd.R_elder' (rs_ HO108.out) (Kd.R_base ho63) hb); have n2_ := Aside0.mk (Kd.R_lower (Kd.R_new' (Kd.R_new' ho63 (Kd.R_lt (rs_ HO104.out))) (Kd.R_lt (rs_ HO108.out))) (below_size (ws_ HB.out))); have n3_ := Aside0.mk (below_step (ws_ HB.out) hb); clear HO104; clear HO108; clear HB; have HO104 := n0_; have HO108 := n1_; have HO113 := n2_; have HB := n3_; clear n0_ n1_ n2_ n3_; clear hb ho63; obtain ⟨Ao64, co64, eo64⟩ := Kd.R_slice HO113.out; subst eo64) | ((with_reducible refine gate_callee (f := 20) rfl ?_); refine gl_ (some 30) Tryz.func20 #[.slice Ao64 y111.length co64] ?_; (with_reducible refine (nacellelaw08_first.calls kj2 _ _ y111 t114 _ ?side1 ?side2 A12.out).mono ?_); (case side1 => repeat (first | exact (Kd.R_reads' HO113.out).2.2 | (with_reducible refine Kd.C_alloc ?_ _) | (with_reducible refine Kd.C_drewN ?_ _) | (with_reducible refine Kd.C_drew ?_))); (case side2 => exact (Kd.R_reads' HO113.out).2.1); rintro e w' ⟨rfl, ⟨nd, rfl⟩⟩; refine ⟨_, rfl, ?_⟩; obtain ⟨Ao65, co65, eo65⟩ := Kd.R_slice HO108.out; subst eo65) | ((with_reducible refine gate_callee (f := 39) rfl ?_); refine gl_ (some 38) Tryz.func39 #[.slice Ao65 t105.length co65, .slice none 0 0] ?_; (refine (nacelleref01_SameInts.calls kj2 _ _ t105 _ _ ([] : List Int) true _ ?side1 ?side2 ?side3 ?side4 A47.out).mono ?_); (case side1 => repeat (first | exact (Kd.R_reads' HO108.out).2.2 | (with_reducible refine Kd.C_alloc ?_ _) | (with_reducible refine Kd.C_drewN ?_ _) | (with_reducible refine Kd.C_drew ?_))); (case side2 => exact (Kd.R_reads' HO108.out).2.1); (case side3 => exact Kd.C_nil _ _); (case side4 => exact Nat.le_refl _); rintro e w' ⟨rfl, ⟨nd, rfl⟩⟩; refine ⟨_, rfl, ?_⟩))
       go_ret
       exact ⟨by first | rfl | (simp [errW_none, errW_some] <;> rfl) | (simp [*, errW_none, errW_some] <;> rfl), by repeat (first | (with_reducible first | exact HB.out | apply below_alloc | apply pw_below_drewN | apply below_drew1) | exact HB.out)⟩
     ·replace c48 := Bool.eq_false_iff.mpr c48
      subst c48
      have H1 : (some false) = some r := by rw [if_neg (show ¬ (false = true) by decide)] at H; exact H
      clear H
      have H := H1
      clear H1
      obtain rfl := Option.some.inj H
      go_wp2_with (first | ((with_reducible refine gate_callee (f := 36) rfl ?_); refine gl_ (some 20) Tryz.func36 #[.slice A0 l0.length c0] ?_; (with_reducible refine (nacellelaw08_numbers.calls _ _ l0 t102 _ ?side1 ?side2 A8.out).mono ?_); (case side1 => exact cs_ (Kd.C_below HR0.out HB.out)); (case side2 => exact HC0.out); rintro e w66 ⟨v103, rfl, ho0, hb⟩; refine ⟨_, rfl, ?_⟩; have n0_ := Aside0.mk (Kd.R_lower ho0 (below_size (ws_ HB.out))); have n1_ := Aside0.mk (below_step (ws_ HB.out) hb); clear HB; have HO104 := n0_; have HB := n1_; clear n0_ n1_; (try clear hb); (try clear hb2); (try clear hk); (try clear hi); (try clear ho0); obtain ⟨Ao67, co67, eo67⟩ := Kd.R_slice HO104.out; subst eo67) | ((with_reducible refine gate_callee (f := 35) rfl ?_); refine gl_ (some 22) Tryz.func35 #[.slice Ao67 t102.length co67, .int .i64 a1] ?_; (with_reducible refine (market_Curtail.calls kj2 _ _ t102 a1 t105 t106 _ ?side1 ?side2 A9.out).mono ?_); (case side1 => repeat (first | exact (Kd.R_reads' HO104.out).2.2 | (with_reducible refine Kd.C_alloc ?_ _) | (with_reducible refine Kd.C_drewN ?_ _) | (with_reducible refine Kd.C_drew ?_))); (case side2 => exact (Kd.R_reads' HO104.out).2.1); rintro e w68 ⟨v107, rfl, ho0, hb⟩; refine ⟨_, rfl, ?_⟩; have n0_ := Aside0.mk (Kd.R_elder' (rs_ HO104.out) (Kd.R_base ho0) hb); have n1_ := Aside0.mk (Kd.R_lower (Kd.R_new' ho0 (Kd.R_lt (rs_ HO104.out))) (below_size (ws_ HB.out))); have n2_ := Aside0.mk (below_step (ws_ HB.out) hb); clear HO104; clear HB; have HO104 := n0_; have HO108 := n1_; have HB := n2_; clear n0_ n1_ n2_; (try clear hb); (try clear hb2); (try clear hk); (try clear hi); (try clear ho0)) | ((with_reducible refine gate_callee (f := 37) rfl ?_); refine gl_ (some 26) Tryz.func37 #[.slice A0 l0.length c0, .int .i64 64, .int .i64 100000] ?_; (with_reducible refine (nacelleref08_CheckEach.calls kj2 _ _ l0 64 100000 t109 _ ?side1 ?side2 A10.out).mono ?_); (case side1 => exact cs_ (Kd.C_below HR0.out HB.out)); (case side2 => exact HC0.out); rintro e w' ⟨rfl, ⟨nd, rfl⟩⟩; refine ⟨_, rfl, ?_⟩) | ((with_reducible refine gate_callee (f := 22) rfl ?_); refine gl_ (some 28) Tryz.func22 #[.int .i64 a1, .int .i64 0, .int .i64 6400000] ?_; (with_reducible refine (nacelleref08_CheckRange.calls a1 0 6400000 t110 _ A11.out).mono ?_); rintro e w' ⟨rfl, ⟨nd, rfl⟩⟩; refine ⟨_, rfl, ?_⟩) | ((with_reducible refine gate_dst (N := 29) rfl ?_); (try (refine gate_guard (by rfl) ?_; dsimp only)); refine Kd.R_lit (Kd.int .i64) _ 3 ?hg (N := 29) ?hd (xs := ([t109, t110] : List Int)) (inner := [.int .i64 t109, .int .i64 t110]) (ok := fun _ => True) (okp := fun _ => True) ?hr ?hp (fun _ hk => hk) trivial (Below.refl _ _) (Nat.le_refl _) (by simp) ?_; (case hd => rfl); (case hg => rfl); (case hr => first | (go_simp; done) | (go_simp; rfl)); (case hp => exact (Reps.one (show Kd.M (Kd.int .i64) _ _ _ t109 [.int .i64 t109] from rfl) (Reps.one (show Kd.M (Kd.int .i64) _ _ _ t110 [.int .i64 t110] from rfl) (Reps.none _ _)))); intro v112 w69 ho70 hb hg_ hnew_; clear hg_ hnew_; (first | rw [← Ny111.out] at ho70 | (simp only [Int.reduceToNat] at ho70; rw [← Ny111.out] at ho70)); have n0_ := Aside0.mk (Kd.R_elder' (rs_ HO104.out) (Kd.R_base ho70) hb); have n1_ := Aside0.mk (Kd.R_elder' (rs_ HO108.out) (Kd.R_base ho70) hb); have n2_ := Aside0.mk (Kd.R_lower (Kd.R_new' (Kd.R_new' ho70 (Kd.R_lt (rs_ HO104.out))) (Kd.R_lt (rs_ HO108.out))) (below_size (ws_ HB.out))); have n3_ := Aside0.mk (below_step (ws_ HB.out) hb); clear HO104; clear HO108; clear HB; have HO104 := n0_; have HO108 := n1_; have HO113 := n2_; have HB := n3_; clear n0_ n1_ n2_ n3_; clear hb ho70; obtain ⟨Ao71, co71, eo71⟩ := Kd.R_slice HO113.out; subst eo71) | ((with_reducible refine gate_callee (f := 20) rfl ?_); refine gl_ (some 30) Tryz.func20 #[.slice Ao71 y111.length co71] ?_; (with_reducible refine (nacellelaw08_first.calls kj2 _ _ y111 t114 _ ?side1 ?side2 A12.out).mono ?_); (case side1 => repeat (first | exact (Kd.R_reads' HO113.out).2.2 | (with_reducible refine Kd.C_alloc ?_ _) | (with_reducible refine Kd.C_drewN ?_ _) | (with_reducible refine Kd.C_drew ?_))); (case side2 => exact (Kd.R_reads' HO113.out).2.1); rintro e w' ⟨rfl, ⟨nd, rfl⟩⟩; refine ⟨_, rfl, ?_⟩; obtain ⟨Ao72, co72, eo72⟩ := Kd.R_slice HO108.out; subst eo72) | ((with_reducible refine gate_callee (f := 39) rfl ?_); refine gl_ (some 38) Tryz.func39 #[.slice Ao72 t105.length co72, .slice none 0 0] ?_; (refine (nacelleref01_SameInts.calls kj2 _ _ t105 _ _ ([] : List Int) false _ ?side1 ?side2 ?side3 ?side4 A47.out).mono ?_); (case side1 => repeat (first | exact (Kd.R_reads' HO108.out).2.2 | (with_reducible refine Kd.C_alloc ?_ _) | (with_reducible refine Kd.C_drewN ?_ _) | (with_reducible refine Kd.C_drew ?_))); (case side2 => exact (Kd.R_reads' HO108.out).2.1); (case side3 => exact Kd.C_nil _ _); (case side4 => exact Nat.le_refl _); rintro e w' ⟨rfl, ⟨nd, rfl⟩⟩; refine ⟨_, rfl, ?_⟩))
      go_ret
      exact ⟨by first | rfl | (simp [errW_none, errW_some] <;> rfl) | (simp [*, errW_none, errW_some] <;> rfl), by repeat (first | (with_reducible first | exact HB.out | apply below_alloc | apply pw_below_drewN | apply below_drew1) | exact HB.out)⟩
end Go.Proofs.YtfdlhbdcejlopaaGreatDoor.B
namespace Go.Proofs.YtfdlhbdcejlopaaGreatDoor.B
open Go.RowKit Go.Proofs.YtfdlhbdcejlopaaGreatDoorW.PrintWords Go.Proofs.YtfdlhbdcejlopaaGreatDoorW.PrintLast Go.Proofs.YtfdlhbdcejlopaaGreatDoorW.PrintMore
set_option linter.unusedVariables false
set_option linter.unusedSimpArgs false
theorem cuts_sum (L T : Int) (hT : 0 < T) (hL : 0 ≤ L) : ∀ l : List Int, (∀ x ∈ l, 0 ≤ x) → (l.map fun x => x * L / T).sum * T ≤ l.sum * L ∧ l.sum * L ≤ (l.map fun x => x * L / T).sum * T + (l.length : Int) * T := by
 intro l
 induction l with
 | nil => intro _; simp
 | cons x l ih =>
  intro h
  have := ih (fun y hy => h y (by simp [hy]))
  have e1 := Int.mul_ediv_add_emod (x * L) T
  have e2 := Int.emod_nonneg (x * L) (by omega : T ≠ 0)
  have e3 := Int.emod_lt_of_pos (x * L) hT
  have e4 : T * (x * L / T) = x * L / T * T := Int.mul_comm _ _
  simp only [List.map_cons, List.sum_cons, List.length_cons, Int.add_mul]
  push_cast
  rw [Int.add_mul, Int.one_mul]
  omega
theorem cut_in {L T x : Int} (hx : 0 ≤ x ∧ x ≤ 100000) (hL : 0 ≤ L ∧ L ≤ 6400000) (hT : 0 < T) (hxT : x ≤ T) : cutV L T x = x * L / T ∧ 0 ≤ x * L / T ∧ x * L / T ≤ 6400000 := by
 unfold cutV
 have h1 : 0 ≤ x * L := Int.mul_nonneg hx.1 hL.1
 have h2 : x * L ≤ 100000 * 6400000 := Int.mul_le_mul hx.2 hL.2 hL.1 (by omega)
 rw [w64in (x * L) (by omega), Int.tdiv_eq_ediv_of_nonneg h1]
 have h3 : 0 ≤ x * L / T := Int.ediv_nonneg h1 (by omega)
 have h4 : x * L / T ≤ L := by
  refine Int.ediv_le_of_le_mul hT ?_
  rw [Int.mul_comm L T]
  exact Int.mul_le_mul_of_nonneg_right hxT hL.1
 rw [w64in (x * L / T) (by omega)]
 omega
theorem spare_in {L : Int} {l : List Int} (hl : ∀ x ∈ l, 0 ≤ x ∧ x ≤ 100000) (hn : l.length ≤ 64) (hL : 0 ≤ L ∧ L ≤ 6400000) (hT : sumW l > L) : 0 ≤ spareV L (sumW l) l ∧ spareV L (sumW l) l ≤ l.length := by
 have hs := sumW_in l 100000 hl (by omega)
 rw [hs.1] at hT ⊢
 have hT0 : 0 < l.sum := by omega
 have hle : ∀ (l : List Int), (∀ x ∈ l, 0 ≤ x ∧ x ≤ 100000) → ∀ x ∈ l, x ≤ l.sum := by
  intro l
  induction l with
  | nil => intro _ x hx; cases hx
  | cons y l ih =>
   intro h x hx
   have h0 : ∀ (l : List Int), (∀ x ∈ l, 0 ≤ x ∧ x ≤ 100000) → 0 ≤ l.sum := by
    intro l
    induction l with
    | nil => intro _; simp
    | cons y l ih => intro h; have := ih (fun z hz => h z (by simp [hz])); have := h y (by simp); simp only [List.sum_cons]; omega
   have h1 := h0 l (fun z hz => h z (by simp [hz]))
   have h2 := h y (by simp)
   simp only [List.sum_cons]
   rcases List.mem_cons.1 hx with rfl | hx
   ·omega
   ·have := ih (fun z hz => h z (by simp [hz])) x hx
    omega
 have hm : givenV L l.sum l = l.map fun x => x * L / l.sum := by
  unfold givenV
  exact List.map_congr_left fun x hx => (cut_in (hl x hx) hL hT0 (hle l hl x hx)).1
 have hg := sumW_in (givenV L l.sum l) 6400000 (fun y hy => by
  rw [hm] at hy
  obtain ⟨x, hx, rfl⟩ := List.mem_map.1 hy
  exact (cut_in (hl x hx) hL hT0 (hle l hl x hx)).2) (by simp [givenV]; omega)
 have hc := cuts_sum L l.sum hT0 hL.1 l (fun x hx => (hl x hx).1)
 rw [← hm] at hc
 have h1 : (givenV L l.sum l).sum ≤ L := by
  have h : (givenV L l.sum l).sum * l.sum ≤ L * l.sum := by rw [Int.mul_comm L]; exact hc.1
  exact Int.le_of_mul_le_mul_right h hT0
 have h2 : L ≤ (givenV L l.sum l).sum + l.length := by
  have h : L * l.sum ≤ ((givenV L l.sum l).sum + l.length) * l.sum := by rw [Int.add_mul, Int.mul_comm L]; exact hc.2
  exact Int.le_of_mul_le_mul_right h hT0
 unfold spareV
 rw [hg.1]
 have := hg.2
 rw [w64in _ (by omega)]
 omega
theorem ev_shared_le {L : Int} {l : List Int} (hl : Len l) (hT : sumW l ≤ L) : Ev (fun k => market_shared.f k l L) l := by
 unfold market_shared.f
 simp only [numbers_eq hl, Option.bind_some]
 refine Ev.bind (ev_sum hl) ?_
 simp only [if_pos hT]
 exact Ev.const _
theorem ev_Curtail_le {L : Int} {l : List Int} (hl : Len l) (hT : sumW l ≤ L) : Ev (fun k => nacelleref08_Curtail.f k l L) l := by
 unfold nacelleref08_Curtail.f
 have hb : ([] : List Int).length + l.length < 17592186044416 := by unfold Len at hl; simp; omega
 simp only [Option.bind_some, if_pos hb, List.nil_append]
 refine Ev.bind (ev_total hl) ?_
 simp only [if_pos hT]
 exact Ev.const _
def badCurtail (l : List Int) (L : Int) : Int := if (l.length : Int) > 64 then 5 else if eachV 100000 l = 0 then inV 6400000 L else 3
def sharesV (l : List Int) (L : Int) : List Int := if sumW l ≤ L then l else curtailV L (sumW l) l
theorem each_cases (m : Int) (l : List Int) : eachV m l = 0 ∨ eachV m l = 3 := by unfold eachV; split <;> simp
theorem ev_market_Curtail {l : List Int} {L : Int} (hl : Len l) : Ev (fun k => market_Curtail.f k l L) (if badCurtail l L = 0 then sharesV l L else [], badCurtail l L) := by
 unfold market_Curtail.f
 simp only [when_eq, Option.bind_some, checkTotal_eq]
 refine Ev.bind (ev_energies hl) ?_
 refine Ev.bind (ev_first (by unfold Len at *; simpa using hl)) ?_
 rw [firstV_map]
 refine Ev.bind (ev_first (by unfold Len; simp)) ?_
 have e : firstV [if decide ((l.length : Int) > 64) = true then 5 else 0, eachV 100000 l, inV 6400000 L] = badCurtail l L := by
  unfold badCurtail
  by_cases h : (l.length : Int) > 64
  ·simp [h, firstV]
  ·have h' : ¬ 64 < (l.length : Int) := h
   rcases each_cases 100000 l with h2 | h2
   ·simp only [h, h2, decide_false, Bool.false_eq_true, if_false, if_true, firstV]
    split <;> simp_all
   ·simp [h', h2, firstV]
 rw [e]
 by_cases hb : badCurtail l L = 0
 ·simp only [hb, if_true]
  unfold badCurtail at hb
  have h1 : ¬ (l.length : Int) > 64 := fun h => by rw [if_pos h] at hb; cases hb
  rw [if_neg h1] at hb
  have h2 : eachV 100000 l = 0 := by
   rcases each_cases 100000 l with h | h
   ·exact h
   ·rw [if_neg (by omega)] at hb; cases hb
  rw [if_pos h2] at hb
  have h3 : 0 ≤ L ∧ L ≤ 6400000 := by
   unfold inV at hb
   by_cases h : 0 ≤ L ∧ L ≤ 6400000
   ·exact h
   ·rw [if_neg h] at hb; cases hb
  have h4 : ∀ x ∈ l, 0 ≤ x ∧ x ≤ 100000 := by
   unfold eachV at h2
   by_cases h : l.all (fun x => decide (0 ≤ x ∧ x ≤ 100000)) = true
   ·intro x hx; simpa using List.all_eq_true.1 h x hx
   ·rw [if_neg h] at h2; cases h2
  refine Ev.bind (a := sharesV l L) ?_ (Ev.const _)
  unfold sharesV
  by_cases hT : sumW l ≤ L
  ·rw [if_pos hT]; exact ev_shared_le hl hT
  ·rw [if_neg hT]
   have hn0 : sumW l ≠ 0 := by omega
   exact ev_shared hl (by omega) hn0 (fun h => by subst h; simp [sumW] at hn0) (spare_in h4 (by omega) h3 (by omega))
 ·simp only [if_neg hb]
  exact Ev.const _
theorem ev_ref_Curtail {l : List Int} {L : Int} (hl : Len l) (hb : badCurtail l L = 0) : Ev (fun k => nacelleref08_Curtail.f k l L) (sharesV l L) := by
 unfold badCurtail at hb
 have h1 : ¬ (l.length : Int) > 64 := fun h => by rw [if_pos h] at hb; cases hb
 rw [if_neg h1] at hb
 have h2 : eachV 100000 l = 0 := by
  rcases each_cases 100000 l with h | h
  ·exact h
  ·rw [if_neg (by omega)] at hb; cases hb
 rw [if_pos h2] at hb
 have h3 : 0 ≤ L ∧ L ≤ 6400000 := by
  unfold inV at hb
  by_cases h : 0 ≤ L ∧ L ≤ 6400000
  ·exact h
  ·rw [if_neg h] at hb; cases hb
 have h4 : ∀ x ∈ l, 0 ≤ x ∧ x ≤ 100000 := by
  unfold eachV at h2
  by_cases h : l.all (fun x => decide (0 ≤ x ∧ x ≤ 100000)) = true
  ·intro x hx; simpa using List.all_eq_true.1 h x hx
  ·rw [if_neg h] at h2; cases h2
 unfold sharesV
 by_cases hT : sumW l ≤ L
 ·rw [if_pos hT]; exact ev_Curtail_le hl hT
 ·rw [if_neg hT]
  exact ev_Curtail hl (by omega) (by omega) (spare_in h4 (by omega) h3 (by omega))
theorem ev_bad_ref {l : List Int} {L : Int} : firstV [if (l.length : Int) > 64 then 5 else eachV 100000 l, inV 6400000 L] = badCurtail l L := by
 unfold badCurtail
 by_cases h : (l.length : Int) > 64
 ·simp [h, firstV]
 ·rcases each_cases 100000 l with h2 | h2
  ·simp only [h, h2, if_false, if_true, firstV]
   split <;> simp_all
  ·have h' : ¬ 64 < (l.length : Int) := h
   simp [h', h2, firstV]
theorem shares_length {l : List Int} {L : Int} : (sharesV l L).length = l.length := by
 unfold sharesV
 split
 ·rfl
 ·unfold curtailV
  rw [bumps_length]
  simp [givenV]
theorem ev_MarketCurtails_j0 {l : List Int} {L : Int} (hl : Len l) : Ev (fun k => nacellelaw08_MarketCurtails.j0 k l L false) true := by
 refine Ev.step ?_
 simp only [nacellelaw08_MarketCurtails.j0, Bool.false_eq_true, if_false, numbers_eq hl, Option.bind_some, range_eq]
 refine Ev.bind (ev_market_Curtail hl) ?_
 refine Ev.bind (ev_each hl 64 100000) ?_
 refine Ev.bind (ev_lfirst (by unfold Len; simp)) ?_
 rw [ev_bad_ref]
 by_cases hb : badCurtail l L = 0
 ·simp only [if_pos hb]
  refine Ev.bind (ev_ref_Curtail hl hb) ?_
  refine Ev.bind (ev_same (by unfold Len at *; rw [shares_length]; exact hl)) ?_
  simp only [if_true, nacellelaw08_awake.f, Option.bind_some]
  exact Ev.const _
 ·simp only [if_neg hb]
  refine Ev.bind (ev_same (by unfold Len; simp)) ?_
  simp only [if_true, nacellelaw08_awake.f, Option.bind_some]
  exact Ev.const _
theorem pure_MarketCurtails (l : List Int) (L : Int) : ∃ k, nacellelaw08_MarketCurtails.f k l L = some true := by
 unfold nacellelaw08_MarketCurtails.f
 by_cases h : (l.length : Int) > 10
 ·by_cases h2 : (l.length : Int) = 65
  ·simp only [h, if_true, h2, bne_self_eq_false]
   exact (ev_MarketCurtails_j0 (by unfold Len; omega)).out
  ·refine ⟨1, ?_⟩
   rw [if_pos h]
   simp only [nacellelaw08_MarketCurtails.j0, if_pos ((bne_iff_ne).2 h2 : ((l.length : Int) != 65) = true)]
   rfl
 ·simp only [if_neg h]
  exact (ev_MarketCurtails_j0 (by unfold Len; omega)).out
end Go.Proofs.YtfdlhbdcejlopaaGreatDoor.B
namespace Go.Proofs.YtfdlhbdcejlopaaGreatDoor.B
open Go.ChangeShapes Go.WideShapes Go.ChangeAt Go.RowKit Go.Proofs.YtfdlhbdcejlopaaGreatDoorW.PrintWords Go.Proofs.YtfdlhbdcejlopaaGreatDoorW.PrintLast Go.Proofs.YtfdlhbdcejlopaaGreatDoorW.PrintMore
set_option linter.unusedVariables false
theorem curtails_walk (a0 : Option Addr) (len0 cap0 : Nat) (z0 : List Int) (a1 : Int) (w : World) (w0 : IsRow .i64 w a0 len0 cap0 z0) :
  Calls Tryz.prog 5 #[.slice a0 len0 cap0, .int .i64 a1] w fun e w' => e = .returned (.bool true) ∧ Below w.heap.size w w' := by
 obtain ⟨l0, rfl, hr0, hm0, hw0, hc0⟩ := ReadsInt.ofRowC w0
 obtain ⟨k, h⟩ := pure_MarketCurtails l0 a1
 exact nacellelaw08_MarketCurtails.calls k _ _ l0 a1 true w (Kd.C_of_reads (d := (0 : Int)) (h1 := fun _ => rfl) hr0) hc0 h
set_option maxRecDepth 100000 in
theorem curtails_lifted (os : Os) (started : os.Started) (H : Type) (enc : TypeId × Value → H) :
  ReturnsInHanded {} Tryz.checked os 5 .any (fun w args => (Rows.marketCurtailsSpec.pre enc Tryz.prog Tryz.f5 [] false w args ∧ laidMetH Tryz.prog laid3 w) ∧ sizedMet enc Tryz.prog Tryz.f5 (OpenSpec.ofChange Rows.marketCurtailsSpec) false w args)
   (Rows.marketCurtailsSpec.post enc Tryz.prog Tryz.f5 false true false false) := by
 refine returnsInHanded_of_change_and (C := Tryz.checked) (X := fun w _ => laidMetH Tryz.prog laid3 w) (fun _ _ _ hh h => h.of_heap hh) own started (by kernel_rfl) Tryz.func5
  (ChangeSpec.witness_shaped (enc := enc) (C := Tryz.checked) (os := os) (X := fun w _ => laidMetH Tryz.prog laid3 w) false (World.doorLaid Tryz.prog 34 os) #[.slice none 0 0, .int .i64 0] 8 rfl (World.shaped_of_RefB (by kernel_rfl) (by kernel_rfl)) (by kernel_rfl) (by kernel_rfl) (by kernel_rfl) (door_met os _)) ?_
 intro W base args ds gs before hval0 hW hcnd hsz0 _ _
 have hval : ∀ (j : Nat) t v, Tryz.f5.params[j]? = some t → args[j]? = some v → Value.okWide Tryz.prog W .any base t v := hval0
 have hW' := hW
 obtain ⟨p, q, hA0, hV, rfl, hfz, hnd⟩ := hW
 have hA : DataW.TrodAll enc Tryz.prog W 0 (fun _ => true) true Tryz.f5.params.toList args.toList ds p := hA0
 rw [Tryz.params5] at hA hval
 obtain ⟨v0, vs0, d0, ds0, p0, q0, hargs, rfl, rfl, h0, r0⟩ := trodAll_cons hA
 obtain ⟨v1, vs1, d1, ds1, p1, q1, rfl, rfl, rfl, h1, r1⟩ := trodAll_cons r0
 obtain ⟨rfl, rfl, rfl⟩ := trodAll_nil r1
 obtain rfl : args = #[v0, v1] := by cases args; simp_all
 obtain ⟨rfl, rfl⟩ := trodVars_none hV
 obtain ⟨a0, len0, cap0, rfl⟩ := okWide_slice Tryz.underlying52 (hval 0 52 v0 rfl rfl)
 have k0 := h0
 have lt0 : ∀ x ∈ p0, x.block < W.heap.size := by obtain ⟨m, hm⟩ := k0; exact DataW.trod_lt m _ _ _ hm
 obtain ⟨z0, w0⟩ : ∃ zs, IsRow .i64 W a0 len0 cap0 zs := by
  obtain ⟨fuel, hf⟩ := h0
  rcases open_ints Tryz.underlying52 Tryz.underlying3 (by kernel_rfl) hf with ⟨hcs, _⟩ | ⟨x, l, c, zs, hcs, _, hl, hm, hz, _, hcell, hwz⟩
  ·simp [Value.cells] at hcs
   obtain ⟨rfl, rfl, rfl⟩ := hcs
   exact ⟨[], .inl ⟨rfl, rfl, rfl, rfl⟩⟩
  ·simp [Value.cells] at hcs
   obtain ⟨rfl, rfl, rfl⟩ := hcs
   exact ⟨zs, .inr ⟨_, rfl, hl, hm, by simpa using hz, hcell, hwz⟩⟩
 obtain ⟨a1, rfl, rfl, rfl, w1⟩ := open_int Tryz.underlying3 (hval 1 3 v1 rfl rfl) h1
 clear hA0 hval0 hsz0
 refine (curtails_walk a0 len0 cap0 z0 a1 W w0).mono fun e W' ⟨he, bel⟩ => ?_
 subst he
 exact ⟨_, rfl, _, _, _, [], _, [], hW', trodAll_mk1 (shut_bool Tryz.underlying4 _), (trodAll_cons_mk (Below.trod laidOut (by kernel_rfl) (of_decide_eq_true (by kernel_rfl)) k0 bel lt0) (trodAll_cons_mk (shut_int Tryz.underlying3 w1) trodAll_mk0)), rfl, bel.frame _, fun h => by cases h⟩
theorem curtails_holds : Rows.MarketCurtailsSaid :=
 OpenClaim.holds_of_wide 5 Tryz.f5 rfl rfl rfl rfl rfl rfl rfl ⟨rfl, rfl, rfl, rfl, rfl⟩ rfl rfl rfl rfl rfl curtails_no Tryz.func5 curtails_closed
  (of_decide_eq_true (by kernel_rfl)) (by unfold Func.isWrapper; first | (rw [if_pos (by decide +kernel)]; kernel_rfl) | (rw [if_neg (by decide +kernel)]; exact ⟨rfl, rfl⟩))
  (fun os started H enc _ => curtails_lifted os started H enc)
end Go.Proofs.YtfdlhbdcejlopaaGreatDoor.B
namespace Go.Proofs.YtfdlhbdcejlopaaGreatDoor
open Go
theorem marketCurtails_card_holds : Rows.MarketCurtailsCardSaid :=
 Claim7.holds_tied_plain_at .later [] [.data, .data, .data] true (true, "79f366469f940c89362884395cc7173ec48ecff25fbd27ebfd1c884a9a1663df") false
  B.curtails_holds (fun _ h => by cases h) B.curtails_wf (fun _ h => by cases h) marketCurtails_row_tie rfl ⟨rfl, rfl⟩ B.kf_main rfl
  (fun f fn hf hfn => by
   obtain rfl : f = 5 := Option.some.inj (B.curtails_no.symm.trans hf) |>.symm
   obtain rfl : fn = Tryz.f5 := (Option.some.inj (Tryz.func5.symm.trans hfn)).symm
   exact ⟨B.kf_looks, fun j t ht => by
    rw [Tryz.params5] at ht
    have hm : t ∈ [52, 3] := by simpa using Array.mem_of_getElem? ht
    have hall : ([52, 3].all fun u => !Tryz.prog.wantsStandIn u) = true := by kernel_rfl
    exact (show Tryz.prog.wantsStandIn t = false by simpa using List.all_eq_true.1 hall t hm)⟩)
  B.curtails_goes
end Go.Proofs.YtfdlhbdcejlopaaGreatDoor
#print axioms Go.Proofs.YtfdlhbdcejlopaaGreatDoor.marketCurtails_card_holds
