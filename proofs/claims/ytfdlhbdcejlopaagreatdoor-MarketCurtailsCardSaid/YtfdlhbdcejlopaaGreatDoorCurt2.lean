/- MarketCurtails: the law returns true at every input, and each argument reads behind the call as it read before (condition: the listed tables of Go's library hold what the program's text lays), part 2 of 6. -/
import Derived.Test.YtfdlhbdcejlopaaGreatDoorRows
import Derived.WalkKit
import Derived.ProofKit
import Derived.OpenShut
import Derived.ShutString
import Derived.ChangeOld
import Derived.Below
import Derived.SizedLaws
import Derived.LaidMore
import Derived.LaidLaws
import Derived.LaidHandle
import Derived.Stop.Joined
import Derived.Handed
import Derived.Test.YtfdlhbdcejlopaaGreatDoorProg
import Derived.Deep.Draws
import Derived.Deep.AppendLies
import Derived.Maps.AppendAt
import Derived.OwnWalk
import Derived.Laws.BytesArg
import Derived.Laws.MakeOwn
import Derived.Laws.OwnMore
import Derived.Deep.OwnRows
import Derived.Tactics
import Derived.Lib.ConvBytes
import Derived.Laws.Slices
import Derived.KernelRfl
import Derived.RowKit3
import Derived.Deep.LoopGhost
import Derived.Deep.QuietTactic
import Derived.BigQuiet
import Derived.WideLaws
import Derived.Deep.DeepCutAuto
import Derived.Deep.CutBlock
import Derived.Deep.RegionHeld3
import Derived.Laws.Rows
import Derived.Lib.AppendStr
import Derived.ArgAppend
import Derived.Laws.IdiomCopy
import Derived.OrdersHeld
import Derived.Laws.BitsLemmas
import Derived.RowKit
import Derived.Shelf.Small.Bits
import Derived.Shelf.Small.Wraps
import Derived.Shelf.Sort.Plain
import Derived.Ground.Names2Prog
import Derived.Shelf.Slices.CompactI
import Derived.Shelf.Slices.SearchI
import Derived.Shelf.Slices.Cells
import Derived.Shelf.Slices.In.SortNone
import Derived.Sort.Grow
import Derived.Sort.OwnSortedInts
import Derived.Shelf.SlSortCmp.WholeK
import Derived.Shelf.SlGeneric
import Derived.Ground.SlsfProg
import Derived.Test.YtfdlhbdcejlopaaGreatDoorCurt1
namespace Go.Proofs.YtfdlhbdcejlopaaGreatDoor.B
open Go.RowKit Go.Proofs.YtfdlhbdcejlopaaGreatDoorW.PrintWords Go.Proofs.YtfdlhbdcejlopaaGreatDoorW.PrintLast Go.Proofs.YtfdlhbdcejlopaaGreatDoorW.PrintMore
section
variable {P : Program} {md : Region.Mode} {ops : Array Oper} {Q : Exit → Act → World → Prop} {S : World → Prop} {ds : List Nat}
theorem gl_ {rest : List Oper} {oi : Oper} {a : Act} {w : World} (N : Option Tmp) {f : FuncId} {fn : Func} {as_ : Array Operand} {ts : Array TypeId} (hf : P.funcs[f]? = some fn) (args : Array Value)
    (h : Calls P f args w fun e w' => ∃ v, e = .returned v ∧ wpList P ops Q rest (a.put N v) w') (hd : oi.dst = N := by rfl) (hg : oi.guard = none := by rfl) (hname : (fn.name == "runtime.NumGoroutine") = false := by kernel_rfl) (hb : fn.body.isSome = true := by rfl)
    (hop : oi.op = .call { callee := .value (.func f), args := as_, argTypes := ts } := by rfl) (hargs : as_.map a.eval = args := by ((try simp only [List.map_toArray, List.map_cons, List.map_nil]); first | done | rfl | (simp only [List.length_drop, List.length_take]; rfl))) : wpList P ops Q (oi :: rest) a w :=
  goesL_ N hd hg hf hname hb args hop hargs h
theorem pv_ (i : Nat) (N : Tmp) {oi : Oper} {v : Value} {fuel : Nat} {l : Array Bool} {a : Act} {w : World} {a' : Act} (l' : Array Bool) (hc : anyB md ops l l' i = true) (h : wpAnyLast P md ops Q S ds fuel l' a' w) (hi : ops[i]? = some oi := by rfl) (hN : oi.dst = some N := by rfl)
    (hQ : ∀ c a w, Q (.panic c) (a.put oi.dst v) w → Q (.panic c) a w := by exact fun _ _ _ h => h) (hw : Region.wanted oi (yielded ops a.tmps) = true := by rfl) (hy : ∀ w, (execOp a.eval oi).run P w = .ok (.value v) w := by (intro w'; go_simp; with_reducible rfl))
    (ha : a.put (some N) v = a' := by (simp only [Act.put, List.setIfInBounds_toArray, List.set_cons_zero, List.set_cons_succ, i64_w, i32_w]; rfl)) : wpAnyLast P md ops Q S ds (fuel + 1) l a w :=
  pure_ (i := i) (N := some N) l' hi hN hc hQ (Or.inl ⟨hw, hy⟩) ha h
end
theorem ws_ {n : Nat} {w w1 w2 : World} (h : Below n w w1) (e : Below n w w1 → Below n w w2 := by (intro h; repeat (first | (with_reducible first | exact h | apply below_alloc | apply pw_below_drewN | apply below_drew1) | exact h))) : Below n w w2 := e h
theorem rs_ {α : Type} {d : Kd α} {T b : Nat} {w1 w2 : World} {ok : Nat → Prop} {v : Value} {r : List α} (h : Kd.R d T w1 b ok v r) (e : Kd.R d T w1 b ok v r → Kd.R d T w2 b ok v r := by (intro h; (with_reducible repeat (first | apply Kd.R_alloc | apply Kd.R_drewN | apply Kd.R_drew)); exact h)) : Kd.R d T w2 b ok v r := e h
theorem cs_ {α : Type} {d : Kd α} {w1 w2 : World} {A : Option Addr} {n : Nat} {r : List α} (h : Kd.C d w1 A n r) (e : Kd.C d w1 A n r → Kd.C d w2 A n r := by (intro h; repeat (first | exact h | (with_reducible refine Kd.C_alloc ?_ _) | (with_reducible refine Kd.C_drewN ?_ _) | (with_reducible refine Kd.C_drew ?_)))) : Kd.C d w2 A n r := e h
theorem wg_ {p : Prop} {n : Nat} {w w1 w2 : World} (h : Below n w w1) (g : p) (e : Below n w w1 → p → Below n w w2 := by (intro h g; repeat (first | (with_reducible first | exact h | apply below_alloc | apply pw_below_drewN | apply below_drew1 | refine below_set ?_ g) | exact h))) : Below n w w2 := e h g
theorem bs_ {g : Nat} {o : Obj} {w1 w2 : World} (h : w1.heap[g]? = some o) (e : w1.heap[g]? = some o → w2.heap[g]? = some o := by (intro h; (with_reducible repeat (first | refine blk_drewN ?_ _ | refine blk_drew ?_ | refine blk_alloc ?_ _)); exact h)) : w2.heap[g]? = some o := e h
end Go.Proofs.YtfdlhbdcejlopaaGreatDoor.B
namespace Go.Proofs.YtfdlhbdcejlopaaGreatDoor.B
open Go.ChangeShapes Go.WideShapes Go.ChangeAt Go.RowKit
set_option maxRecDepth 100000
theorem own : ownKnob Tryz.prog.godebug = none := by kernel_rfl
theorem laidOut : laidOutB Tryz.prog = true := by kernel_rfl
abbrev laid3 : List (String × DataW Unit) := [("math/bits.deBruijn32tab", Rows.laid_math_bits_deBruijn32tab), ("math/bits.deBruijn64tab", Rows.laid_math_bits_deBruijn64tab), ("internal/strconv.uint64pow10", Rows.laid_internal_strconv_uint64pow10)]
theorem door_met (os : Os) (args : Array Value) : laidMetH Tryz.prog laid3 ((World.doorLaid Tryz.prog 34 os).forCall (fun _ _ => 0) ⟨#[], args, []⟩).memory :=
 laidMetH_of_parts3 (fuel := 8) (laidMet_of_run' 8 (by kernel_rfl) (by kernel_rfl)) (by kernel_rfl) (by kernel_rfl)
def IsRow (k : IntKind) (w : World) (a : Option Addr) (len cap : Nat) (zs : List Int) : Prop :=
 (a = none ∧ len = 0 ∧ cap = 0 ∧ zs = []) ∨
 ∃ x, a = some x ∧ len ≤ cap ∧ cap ≤ maxLen ∧ zs.length = cap ∧ (∀ i, i < zs.length → w.cell? (x.add i) = some (.int k (zs.getD i 0))) ∧ ∀ n ∈ zs, (Lit.int k n).wf = true
end Go.Proofs.YtfdlhbdcejlopaaGreatDoor.B
namespace Go.Proofs.YtfdlhbdcejlopaaGreatDoor.B
open Go.RowKit Go.Proofs.YtfdlhbdcejlopaaGreatDoorW.PrintWords Go.Proofs.YtfdlhbdcejlopaaGreatDoorW.PrintLast Go.Proofs.YtfdlhbdcejlopaaGreatDoorW.PrintMore
attribute [local go_sem] max2_int min2_int max_two min_two
set_option linter.unusedVariables false
set_option linter.unusedSimpArgs false
def errW : Option Int → Value
 | none => .nilIface
 | some c => .iface 0 (.int .i64 c)
theorem errW_none : errW none = .nilIface := rfl
theorem errW_some (c : Int) : errW (some c) = .iface 0 (.int .i64 c) := rfl
theorem info3 : (Tryz.prog.info? 3).map (fun i => (i.zero, i.size, i.bytes)) = some (some (.int .i64 0), 1, 8) := by kernel_rfl
theorem info4 : (Tryz.prog.info? 4).map (fun i => (i.zero, i.size, i.bytes)) = some (some (.bool false), 1, 1) := by kernel_rfl
theorem info9 : (Tryz.prog.info? 9).map (fun i => (i.zero, i.size, i.bytes)) = some (some (.string ⟨#[]⟩), 1, 16) := by kernel_rfl
theorem info28 : (Tryz.prog.info? 28).map (fun i => (i.zero, i.size, i.bytes)) = some (some (.int .i64 0), 1, 8) := by kernel_rfl
theorem info110 : (Tryz.prog.info? 110).map (fun i => (i.zero, i.size, i.bytes)) = some (some (.agg #[(.int .i64 0), (.int .i64 0)]), 2, 16) := by kernel_rfl
theorem info150 : (Tryz.prog.info? 150).map (fun i => (i.zero, i.size, i.bytes)) = some (some (.agg #[(.string ⟨#[]⟩), (.int .i64 0), (.int .i64 0)]), 3, 32) := by kernel_rfl
theorem info221 : (Tryz.prog.info? 221).map (fun i => (i.zero, i.size, i.bytes)) = some (some (.agg #[(.int .i64 0), (.int .i64 0)]), 2, 16) := by kernel_rfl
structure S156 where
 f0 : Int
 f1 : (List Int)
def z156 : S156 := ⟨(0 : Int), ([] : List Int)⟩
def k156 : Kd S156 := Kd.iso (Kd.pair (Kd.int .i64) (Kd.slice 3 (Kd.int .i64))) (fun x : S156 => (x.f0, x.f1))
theorem k156_open {w : World} {x : S156} {cs : List Value} (h : k156.K w x cs) : ∃ A1 c1, cs = [.int .i64 x.f0, .slice A1 x.f1.length c1] ∧ x.f1.length ≤ c1 ∧ (Kd.int .i64).C w A1 x.f1.length x.f1 := by
 obtain ⟨_, _, rfl, rfl, ⟨A1, c1, rfl, l1, g1⟩⟩ := h
 exact ⟨A1, c1, rfl, l1, g1⟩
theorem k156_mk (w : World) (x : S156) {A1 : Option Addr} {c1 : Nat} (l1 : x.f1.length ≤ c1) (g1 : (Kd.int .i64).C w A1 x.f1.length x.f1) : k156.K w x [.int .i64 x.f0, .slice A1 x.f1.length c1] := ⟨[.int .i64 x.f0], [.slice A1 x.f1.length c1], rfl, rfl, ⟨A1, c1, rfl, l1, g1⟩⟩
theorem k156_mkF (W : World) (ok : Nat → Prop) (x : S156) {A1 : Option Addr} {c1 : Nat} (l1 : x.f1.length ≤ c1) (g1 : Kd.F (Kd.int .i64) W ok A1 x.f1.length x.f1) : Kd.FK k156 W ok x [.int .i64 x.f0, .slice A1 x.f1.length c1] := fun W2 hW => k156_mk W2 x l1 (g1 W2 hW)
def rd_T156 (xs : List S156) (i : Int) : S156 := xs.getD i.toNat z156
theorem at_T156 {w : World} {A : Option Addr} {n : Nat} {xs : List S156} (h : Kd.C k156 w A n xs) (i : Int) (h0 : 0 ≤ i) (h1 : i < n) : ∃ ad A1 c1, A = some ad ∧ w.cell? (ad.add (i.toNat * 2)) = some (.int .i64 (rd_T156 xs i).f0) ∧ w.cell? ⟨(ad.add (i.toNat * 2)).block, (ad.add (i.toNat * 2)).off + 1, none⟩ = some (.slice A1 (rd_T156 xs i).f1.length c1) ∧ (rd_T156 xs i).f1.length ≤ c1 ∧ (Kd.int .i64).C w A1 (rd_T156 xs i).f1.length (rd_T156 xs i).f1 := by
 obtain ⟨ad, c, e, _, hK, hc0⟩ := Kd.C_get h z156 i h0 h1
 have hc : ∀ j u, c[j]? = some u → w.cell? (ad.add (i.toNat * 2 + j)) = some u := hc0
 obtain ⟨A1, c1, rfl, l1, g1⟩ := k156_open hK
 exact ⟨ad, A1, c1, e, hc 0 _ rfl, by rw [← add_field _ _ 1 (by omega)]; exact hc 1 _ rfl, l1, g1⟩
structure S31 where
 f0 : Int
 f1 : Int
 f2 : Int
def z31 : S31 := ⟨(0 : Int), (0 : Int), (0 : Int)⟩
def k31 : Kd S31 := Kd.iso (Kd.pair (Kd.int .i64) (Kd.pair (Kd.int .i64) (Kd.int .i64))) (fun x : S31 => (x.f0, x.f1, x.f2))
theorem k31_open {w : World} {x : S31} {cs : List Value} (h : k31.K w x cs) : cs = [.int .i64 x.f0, .int .i64 x.f1, .int .i64 x.f2] := by
 obtain ⟨_, _, rfl, rfl, ⟨_, _, rfl, rfl, rfl⟩⟩ := h
 exact rfl
theorem k31_mk (w : World) (x : S31)  : k31.K w x [.int .i64 x.f0, .int .i64 x.f1, .int .i64 x.f2] := ⟨[.int .i64 x.f0], [.int .i64 x.f1, .int .i64 x.f2], rfl, rfl, ⟨[.int .i64 x.f1], [.int .i64 x.f2], rfl, rfl, rfl⟩⟩
def rd_T31 (xs : List S31) (i : Int) : S31 := xs.getD i.toNat z31
theorem at_T31 {w : World} {A : Option Addr} {n : Nat} {xs : List S31} (h : Kd.C k31 w A n xs) (i : Int) (h0 : 0 ≤ i) (h1 : i < n) : ∃ ad , A = some ad ∧ w.cell? (ad.add (i.toNat * 3)) = some (.int .i64 (rd_T31 xs i).f0) ∧ w.cell? ⟨(ad.add (i.toNat * 3)).block, (ad.add (i.toNat * 3)).off + 1, none⟩ = some (.int .i64 (rd_T31 xs i).f1) ∧ w.cell? ⟨(ad.add (i.toNat * 3)).block, (ad.add (i.toNat * 3)).off + 2, none⟩ = some (.int .i64 (rd_T31 xs i).f2) := by
 obtain ⟨ad, c, e, _, hK, hc0⟩ := Kd.C_get h z31 i h0 h1
 have hc : ∀ j u, c[j]? = some u → w.cell? (ad.add (i.toNat * 3 + j)) = some u := hc0
 obtain rfl := k31_open hK
 exact ⟨ad, e, hc 0 _ rfl, by rw [← add_field _ _ 1 (by omega)]; exact hc 1 _ rfl, by rw [← add_field _ _ 2 (by omega)]; exact hc 2 _ rfl⟩
/-! #### struct type 221 -/
structure S221 where
 f0 : Int
 f1 : Int
def z221 : S221 := ⟨(0 : Int), (0 : Int)⟩
def k221 : Kd S221 := Kd.iso (Kd.pair (Kd.int .i64) (Kd.int .i64)) (fun x : S221 => (x.f0, x.f1))
theorem k221_open {w : World} {x : S221} {cs : List Value} (h : k221.K w x cs) : cs = [.int .i64 x.f0, .int .i64 x.f1] := by
 obtain ⟨_, _, rfl, rfl, rfl⟩ := h
 exact rfl
theorem k221_openM {w : World} {base : Nat} {ok : Nat → Prop} {x : S221} {cs : List Value} (h : k221.M w base ok x cs) : cs = [.int .i64 x.f0, .int .i64 x.f1] := by
 obtain ⟨_, _, rfl, rfl, rfl⟩ := h
 exact rfl
theorem k221_mkM (w : World) (base : Nat) (ok : Nat → Prop) (x : S221)  : k221.M w base ok x [.int .i64 x.f0, .int .i64 x.f1] := ⟨[.int .i64 x.f0], [.int .i64 x.f1], rfl, rfl, rfl⟩
def rd_T221 (xs : List S221) (i : Int) : S221 := xs.getD i.toNat z221
theorem at_T221 {w : World} {A : Option Addr} {n : Nat} {xs : List S221} (h : Kd.C k221 w A n xs) (i : Int) (h0 : 0 ≤ i) (h1 : i < n) : ∃ ad , A = some ad ∧ w.cell? (ad.add (i.toNat * 2)) = some (.int .i64 (rd_T221 xs i).f0) ∧ w.cell? ⟨(ad.add (i.toNat * 2)).block, (ad.add (i.toNat * 2)).off + 1, none⟩ = some (.int .i64 (rd_T221 xs i).f1) := by
 obtain ⟨ad, c, e, _, hK, hc0⟩ := Kd.C_get h z221 i h0 h1
 have hc : ∀ j u, c[j]? = some u → w.cell? (ad.add (i.toNat * 2 + j)) = some u := hc0
 obtain rfl := k221_open hK
 exact ⟨ad, e, hc 0 _ rfl, by rw [← add_field _ _ 1 (by omega)]; exact hc 1 _ rfl⟩
structure S150 where
 f0 : ByteArray
 f1 : Int
 f2 : Int
def z150 : S150 := ⟨(⟨#[]⟩ : ByteArray), (0 : Int), (0 : Int)⟩
def k150 : Kd S150 := Kd.iso (Kd.pair Kd.string (Kd.pair (Kd.int .i64) (Kd.int .i64))) (fun x : S150 => (x.f0, x.f1, x.f2))
theorem k150_open {w : World} {x : S150} {cs : List Value} (h : k150.K w x cs) : cs = [.string x.f0, .int .i64 x.f1, .int .i64 x.f2] := by
 obtain ⟨_, _, rfl, rfl, ⟨_, _, rfl, rfl, rfl⟩⟩ := h
 exact rfl
theorem k150_mk (w : World) (x : S150)  : k150.K w x [.string x.f0, .int .i64 x.f1, .int .i64 x.f2] := ⟨[.string x.f0], [.int .i64 x.f1, .int .i64 x.f2], rfl, rfl, ⟨[.int .i64 x.f1], [.int .i64 x.f2], rfl, rfl, rfl⟩⟩
def rd_T150 (xs : List S150) (i : Int) : S150 := xs.getD i.toNat z150
theorem at_T150 {w : World} {A : Option Addr} {n : Nat} {xs : List S150} (h : Kd.C k150 w A n xs) (i : Int) (h0 : 0 ≤ i) (h1 : i < n) : ∃ ad , A = some ad ∧ w.cell? (ad.add (i.toNat * 3)) = some (.string (rd_T150 xs i).f0) ∧ w.cell? ⟨(ad.add (i.toNat * 3)).block, (ad.add (i.toNat * 3)).off + 1, none⟩ = some (.int .i64 (rd_T150 xs i).f1) ∧ w.cell? ⟨(ad.add (i.toNat * 3)).block, (ad.add (i.toNat * 3)).off + 2, none⟩ = some (.int .i64 (rd_T150 xs i).f2) := by
 obtain ⟨ad, c, e, _, hK, hc0⟩ := Kd.C_get h z150 i h0 h1
 have hc : ∀ j u, c[j]? = some u → w.cell? (ad.add (i.toNat * 3 + j)) = some u := hc0
 obtain rfl := k150_open hK
 exact ⟨ad, e, hc 0 _ rfl, by rw [← add_field _ _ 1 (by omega)]; exact hc 1 _ rfl, by rw [← add_field _ _ 2 (by omega)]; exact hc 2 _ rfl⟩
structure S86 where
 f0 : Int
 f1 : Int
 f2 : Int
 f3 : Int
 f4 : Int
def z86 : S86 := ⟨(0 : Int), (0 : Int), (0 : Int), (0 : Int), (0 : Int)⟩
def k86 : Kd S86 := Kd.iso (Kd.pair (Kd.int .i64) (Kd.pair (Kd.int .i64) (Kd.pair (Kd.int .i64) (Kd.pair (Kd.int .i64) (Kd.int .i64))))) (fun x : S86 => (x.f0, x.f1, x.f2, x.f3, x.f4))
theorem k86_open {w : World} {x : S86} {cs : List Value} (h : k86.K w x cs) : cs = [.int .i64 x.f0, .int .i64 x.f1, .int .i64 x.f2, .int .i64 x.f3, .int .i64 x.f4] := by
 obtain ⟨_, _, rfl, rfl, ⟨_, _, rfl, rfl, ⟨_, _, rfl, rfl, ⟨_, _, rfl, rfl, rfl⟩⟩⟩⟩ := h
 exact rfl
theorem k86_mkM (w : World) (base : Nat) (ok : Nat → Prop) (x : S86)  : k86.M w base ok x [.int .i64 x.f0, .int .i64 x.f1, .int .i64 x.f2, .int .i64 x.f3, .int .i64 x.f4] := ⟨[.int .i64 x.f0], [.int .i64 x.f1, .int .i64 x.f2, .int .i64 x.f3, .int .i64 x.f4], rfl, rfl, ⟨[.int .i64 x.f1], [.int .i64 x.f2, .int .i64 x.f3, .int .i64 x.f4], rfl, rfl, ⟨[.int .i64 x.f2], [.int .i64 x.f3, .int .i64 x.f4], rfl, rfl, ⟨[.int .i64 x.f3], [.int .i64 x.f4], rfl, rfl, rfl⟩⟩⟩⟩
def rd_T86 (xs : List S86) (i : Int) : S86 := xs.getD i.toNat z86
theorem at_T86 {w : World} {A : Option Addr} {n : Nat} {xs : List S86} (h : Kd.C k86 w A n xs) (i : Int) (h0 : 0 ≤ i) (h1 : i < n) : ∃ ad , A = some ad ∧ w.cell? (ad.add (i.toNat * 5)) = some (.int .i64 (rd_T86 xs i).f0) ∧ w.cell? ⟨(ad.add (i.toNat * 5)).block, (ad.add (i.toNat * 5)).off + 1, none⟩ = some (.int .i64 (rd_T86 xs i).f1) ∧ w.cell? ⟨(ad.add (i.toNat * 5)).block, (ad.add (i.toNat * 5)).off + 2, none⟩ = some (.int .i64 (rd_T86 xs i).f2) ∧ w.cell? ⟨(ad.add (i.toNat * 5)).block, (ad.add (i.toNat * 5)).off + 3, none⟩ = some (.int .i64 (rd_T86 xs i).f3) ∧ w.cell? ⟨(ad.add (i.toNat * 5)).block, (ad.add (i.toNat * 5)).off + 4, none⟩ = some (.int .i64 (rd_T86 xs i).f4) := by
 obtain ⟨ad, c, e, _, hK, hc0⟩ := Kd.C_get h z86 i h0 h1
 have hc : ∀ j u, c[j]? = some u → w.cell? (ad.add (i.toNat * 5 + j)) = some u := hc0
 obtain rfl := k86_open hK
 exact ⟨ad, e, hc 0 _ rfl, by rw [← add_field _ _ 1 (by omega)]; exact hc 1 _ rfl, by rw [← add_field _ _ 2 (by omega)]; exact hc 2 _ rfl, by rw [← add_field _ _ 3 (by omega)]; exact hc 3 _ rfl, by rw [← add_field _ _ 4 (by omega)]; exact hc 4 _ rfl⟩
structure S110 where
 f0 : Int
 f1 : Int
def z110 : S110 := ⟨(0 : Int), (0 : Int)⟩
def k110 : Kd S110 := Kd.iso (Kd.pair (Kd.int .i64) (Kd.int .i64)) (fun x : S110 => (x.f0, x.f1))
theorem k110_open {w : World} {x : S110} {cs : List Value} (h : k110.K w x cs) : cs = [.int .i64 x.f0, .int .i64 x.f1] := by
 obtain ⟨_, _, rfl, rfl, rfl⟩ := h
 exact rfl
theorem k110_mkM (w : World) (base : Nat) (ok : Nat → Prop) (x : S110)  : k110.M w base ok x [.int .i64 x.f0, .int .i64 x.f1] := ⟨[.int .i64 x.f0], [.int .i64 x.f1], rfl, rfl, rfl⟩
def rd_T110 (xs : List S110) (i : Int) : S110 := xs.getD i.toNat z110
theorem at_T110 {w : World} {A : Option Addr} {n : Nat} {xs : List S110} (h : Kd.C k110 w A n xs) (i : Int) (h0 : 0 ≤ i) (h1 : i < n) : ∃ ad , A = some ad ∧ w.cell? (ad.add (i.toNat * 2)) = some (.int .i64 (rd_T110 xs i).f0) ∧ w.cell? ⟨(ad.add (i.toNat * 2)).block, (ad.add (i.toNat * 2)).off + 1, none⟩ = some (.int .i64 (rd_T110 xs i).f1) := by
 obtain ⟨ad, c, e, _, hK, hc0⟩ := Kd.C_get h z110 i h0 h1
 have hc : ∀ j u, c[j]? = some u → w.cell? (ad.add (i.toNat * 2 + j)) = some u := hc0
 obtain rfl := k110_open hK
 exact ⟨ad, e, hc 0 _ rfl, by rw [← add_field _ _ 1 (by omega)]; exact hc 1 _ rfl⟩
/-! #### struct type 62 -/
structure S182 where
 f0 : Int
 f1 : Int
def z182 : S182 := ⟨(0 : Int), (0 : Int)⟩
end Go.Proofs.YtfdlhbdcejlopaaGreatDoor.B
namespace Go.Proofs.YtfdlhbdcejlopaaGreatDoor.B
open Go.RowKit Go.Proofs.YtfdlhbdcejlopaaGreatDoorW.PrintWords Go.Proofs.YtfdlhbdcejlopaaGreatDoorW.PrintLast Go.Proofs.YtfdlhbdcejlopaaGreatDoorW.PrintMore
set_option linter.unusedVariables false
def Ev {α : Type} (f : Nat → Option α) (v : α) : Prop := ∃ n, ∀ k, n ≤ k → f k = some v
theorem Ev.of {α : Type} {f : Nat → Option α} {v : α} (h : ∀ k, f k = some v) : Ev f v := ⟨0, fun k _ => h k⟩
theorem Ev.const {α : Type} (v : α) : Ev (fun _ => some v) v := ⟨0, fun _ _ => rfl⟩
theorem Ev.step {α : Type} {f : Nat → Option α} {v : α} (h : Ev (fun k => f (k + 1)) v) : Ev f v := by
 obtain ⟨n, h⟩ := h
 exact ⟨n + 1, fun k hk => by
  obtain ⟨j, rfl⟩ : ∃ j, k = j + 1 := ⟨k - 1, by omega⟩
  exact h j (by omega)⟩
theorem Ev.bind {α β : Type} {f : Nat → Option α} {g : Nat → α → Option β} {a : α} {b : β} (hf : Ev f a) (hg : Ev (fun k => g k a) b) : Ev (fun k => (f k).bind (g k)) b := by
 obtain ⟨n, hf⟩ := hf
 obtain ⟨m, hg⟩ := hg
 exact ⟨n + m, fun k hk => by show (f k).bind (g k) = some b; rw [hf k (by omega), Option.bind_some]; exact hg k (by omega)⟩
theorem Ev.out {α : Type} {f : Nat → Option α} {v : α} (h : Ev f v) : ∃ k, f k = some v := ⟨h.choose, h.choose_spec _ (Nat.le_refl _)⟩
theorem Ev.val {α : Type} {f : Nat → Option α} {v u : α} (h : Ev f v) (e : v = u) : Ev f u := e ▸ h
theorem Ev.congr {α : Type} {f g : Nat → Option α} {v : α} (h : Ev g v) (e : ∀ k, f k = g k) : Ev f v := by
 obtain ⟨n, h⟩ := h
 exact ⟨n, fun k hk => (e k).trans (h k hk)⟩
theorem Ev.uniq {α : Type} {f : Nat → Option α} {v u : α} (h : Ev f v) (h' : Ev f u) : v = u := by
 obtain ⟨n, h⟩ := h
 obtain ⟨m, h'⟩ := h'
 exact Option.some.inj ((h (n + m) (by omega)).symm.trans (h' (n + m) (by omega)))
theorem w64in (n : Int) (h : -9223372036854775808 ≤ n ∧ n ≤ 9223372036854775807) : wrap64 n = n := by unfold wrap64; omega
theorem rd_at {l p d : List Int} {x : Int} (h : l = p ++ x :: d) : rd l (p.length : Int) = x := by
 subst h
 simp [rd]
theorem getD_at {α : Type} {z : α} {l p d : List α} {x : α} (h : l = p ++ x :: d) : l.getD (p.length : Int).toNat z = x := by
 subst h
 simp
theorem len_at {α : Type} {l p d : List α} {x : α} (h : l = p ++ x :: d) : (p.length : Int) < (l.length : Int) := by
 subst h
 simp
 omega
theorem len_end {α : Type} {l p : List α} (h : l = p ++ []) : ¬ (p.length : Int) < (l.length : Int) := by
 subst h
 simp
theorem next_at {α : Type} {l p d : List α} {x : α} (h : l = p ++ x :: d) : l = (p ++ [x]) ++ d := by
 subst h
 simp
theorem w_next {α : Type} {l p d : List α} {x : α} (h : l = p ++ x :: d) (hb : l.length ≤ 4611686018427387904) : wrap64 ((p.length : Int) + 1) = (((p ++ [x]).length : Nat) : Int) := by
 subst h
 simp at hb
 rw [w64in _ (by omega)]
 simp
def firstV : List Int → Int
 | [] => 0
 | x :: l => if x = 0 then firstV l else x
def sumW (l : List Int) : Int := l.foldl (fun a x => wrap64 (a + x)) 0
theorem sumW_in (l : List Int) (M : Int) (hl : ∀ x ∈ l, 0 ≤ x ∧ x ≤ M) (hM : M * l.length ≤ 4611686018427387904) : sumW l = l.sum ∧ 0 ≤ l.sum ∧ l.sum ≤ M * l.length := by
 suffices h : ∀ (l : List Int) (a : Int), (∀ x ∈ l, 0 ≤ x ∧ x ≤ M) → 0 ≤ a → a + M * l.length ≤ 4611686018427387904 → l.foldl (fun a x => wrap64 (a + x)) a = a + l.sum ∧ 0 ≤ l.sum ∧ l.sum ≤ M * l.length from by
  have := h l 0 hl (by omega) (by omega)
  unfold sumW
  exact ⟨by rw [this.1]; omega, this.2⟩
 intro l
 induction l with
 | nil => intro a _ _ _; simp
 | cons x l ih =>
  intro a h ha hb
  have hx := h x (by simp)
  have e : M * (((x :: l).length : Nat) : Int) = M * (l.length : Int) + M := by
   rw [List.length_cons]
   push_cast
   rw [Int.mul_add, Int.mul_one]
  rw [e] at hb ⊢
  have hn : 0 ≤ M * (l.length : Int) := Int.mul_nonneg (by omega) (by omega)
  have := ih (a + x) (fun y hy => h y (by simp [hy])) (by omega) (by omega)
  simp only [List.foldl_cons, List.sum_cons]
  rw [w64in _ (by omega), this.1]
  omega
end Go.Proofs.YtfdlhbdcejlopaaGreatDoor.B
namespace Go.Proofs.YtfdlhbdcejlopaaGreatDoor.B
open Go.RowKit Go.Proofs.YtfdlhbdcejlopaaGreatDoorW.PrintWords Go.Proofs.YtfdlhbdcejlopaaGreatDoorW.PrintLast Go.Proofs.YtfdlhbdcejlopaaGreatDoorW.PrintMore
variable {P : Program} {ops : Array Oper} {Q : Exit → Act → World → Prop}
theorem gate_calleeT {rest : List Oper} {o : Oper} {a : Act} {W : World} {t : Tmp} {as_ : Array Operand} {ts : Array TypeId} (_ho : o.op = .call { callee := .value (.tmp t), args := as_, argTypes := ts }) (h : wpList P ops Q (o :: rest) a W) : wpList P ops Q (o :: rest) a W := h
theorem goesT_ {rest : List Oper} {oi : Oper} {a : Act} {w : World} {t : Tmp} (N : Option Tmp) (hd : oi.dst = N) (hg : oi.guard = none) {f : FuncId} {fn : Func} {as_ : Array Operand} {ts : Array TypeId} (hf : P.funcs[f]? = some fn) (hname : (fn.name == "runtime.NumGoroutine") = false) (hb : fn.body.isSome = true) (args : Array Value)
  (hop : oi.op = .call { callee := .value (.tmp t), args := as_, argTypes := ts }) (hfun : a.eval (.tmp t) = .func (.func f) #[] #[]) (hargs : as_.map a.eval = args)
  (h : Calls P f args w fun e w' => ∃ v, e = .returned v ∧ wpList P ops Q rest (a.put N v) w') : wpList P ops Q (oi :: rest) a w := by
 refine wpList_plain hg fun K hK => ?_
 have he := enters_ hf hname hb args w
 have hrun : (execOp a.eval oi).run P w = .ok (.enter f args) w := by
  unfold execOp
  simp only [hop, resolve, hfun]
  simp [Deferred.ofValue, invoke, hargs, he]
 unfold Oper.wp
 rw [hrun, Oper.upon_enter]
 refine h.mono fun e w'' hh => ?_
 obtain ⟨v, rfl, hk⟩ := hh
 subst hd
 exact hK _ _ hk
end Go.Proofs.YtfdlhbdcejlopaaGreatDoor.B
namespace Go.Proofs.YtfdlhbdcejlopaaGreatDoor.B
open Go.RowKit Go.Proofs.YtfdlhbdcejlopaaGreatDoorW.PrintWords Go.Proofs.YtfdlhbdcejlopaaGreatDoorW.PrintLast Go.Proofs.YtfdlhbdcejlopaaGreatDoorW.PrintMore
attribute [local go_sem] max2_int min2_int max_two min_two
set_option linter.unusedVariables false
set_option linter.unusedSimpArgs false
/-! ### market_when: function 90 -/
def market_when.f (a0 : Bool) (a1 : Int) : Option (Int) := if a0 = true then (some a1) else (some 0)
set_option maxHeartbeats 8000000 in
set_option maxRecDepth 100000 in
theorem market_when.calls (a0 : Bool) (a1 : Int) (r : Int) (w : World) (h : market_when.f a0 a1 = some r) :
  Calls Tryz.prog 90 #[.bool a0, .int .i64 a1] w fun e w' => e = .returned (.int .i64 r) ∧ Drawn0 w w' := by
 have H : (if a0 = true then (some a1) else (some 0)) = some r := h
 clear h
 by_cases c3 : a0 = true
 ·subst c3
  have H1 : (some a1) = some r := by rw [if_pos rfl] at H; exact H
  clear H
  have H := H1
  clear H1
  obtain rfl := Option.some.inj H
  go_enter Tryz.func90, Tryz.ntmps90
  go_wp2
  go_ret
  exact ⟨by first | rfl | (simp; done) | (simp [*]; done), by repeat (first | exact Drawn0.refl _ | apply Drawn0.step)⟩
 ·replace c3 := Bool.eq_false_iff.mpr c3
  subst c3
  have H1 : (some 0) = some r := by rw [if_neg (show ¬ (false = true) by decide)] at H; exact H
  clear H
  have H := H1
  clear H1
  obtain rfl := Option.some.inj H
  go_enter Tryz.func90, Tryz.ntmps90
  go_wp2
  go_ret
  exact ⟨by first | rfl | (simp; done) | (simp [*]; done), by repeat (first | exact Drawn0.refl _ | apply Drawn0.step)⟩
/-! ### market_within: function 91 -/
def market_within.f (a0 : Int) (a1 : Int) (a2 : Int) : Option (Int) := if a0 < a1 then ((market_when.f true 3).bind fun t101 => (some t101)) else ((market_when.f (decide (a0 > a2)) 3).bind fun t102 => (some t102))
set_option maxHeartbeats 8000000 in
set_option maxRecDepth 100000 in
theorem market_within.calls (a0 : Int) (a1 : Int) (a2 : Int) (r : Int) (w : World) (h : market_within.f a0 a1 a2 = some r) :
  Calls Tryz.prog 91 #[.int .i64 a0, .int .i64 a1, .int .i64 a2] w fun e w' => e = .returned (.int .i64 r) ∧ Drawn0 w w' := by
 have H : (if a0 < a1 then ((market_when.f true 3).bind fun t101 => (some t101)) else ((market_when.f (decide (a0 > a2)) 3).bind fun t102 => (some t102))) = some r := h
 clear h
 by_cases c4 : a0 < a1
 ·rw [if_pos c4] at H
  have c4b0 : decide (a0 < a1) = true := decide_eq_true c4
  clear c4
  replace H := Option.bind_eq_some_iff.mp H
  obtain ⟨t101, A50, H⟩ := H
  replace H : (some t101) = some r := H
  have A5 := Aside0.mk A50
  clear A50
  obtain rfl := Option.some.inj H
  go_enter Tryz.func91, Tryz.ntmps91
  go_wp2_with (first | ((with_reducible refine gate_callee (f := 90) rfl ?_); refine gl_ (some 15) Tryz.func90 #[.bool true, .int .i64 3] ?_; (with_reducible refine (market_when.calls true 3 t101 _ A5.out).mono ?_); rintro e w' ⟨rfl, ⟨nd, rfl⟩⟩; refine ⟨_, rfl, ?_⟩))
  go_ret
  exact ⟨by first | rfl | (simp; done) | (simp [*]; done), by repeat (first | exact Drawn0.refl _ | apply Drawn0.step)⟩
 ·rw [if_neg c4] at H
  have c4b0 : decide (a0 < a1) = false := decide_eq_false c4
  clear c4
  replace H := Option.bind_eq_some_iff.mp H
  obtain ⟨t102, A60, H⟩ := H
  replace H : (some t102) = some r := H
  have A6 := Aside0.mk A60
  clear A60
  obtain rfl := Option.some.inj H
  go_enter Tryz.func91, Tryz.ntmps91
  go_wp2_with (first | ((with_reducible refine gate_callee (f := 90) rfl ?_); refine gl_ (some 15) Tryz.func90 #[.bool (decide (a0 > a2)), .int .i64 3] ?_; (with_reducible refine (market_when.calls (decide (a0 > a2)) 3 t102 _ A6.out).mono ?_); rintro e w' ⟨rfl, ⟨nd, rfl⟩⟩; refine ⟨_, rfl, ?_⟩))
  go_ret
  exact ⟨by first | rfl | (simp; done) | (simp [*]; done), by repeat (first | exact Drawn0.refl _ | apply Drawn0.step)⟩
/-! ### market_checkTotal: function 101 -/
def market_checkTotal.f (a0 : Int) : Option (Int) := (market_within.f a0 0 6400000).bind fun t101 => (some t101)
set_option maxHeartbeats 8000000 in
set_option maxRecDepth 100000 in
theorem market_checkTotal.calls (a0 : Int) (r : Int) (w : World) (h : market_checkTotal.f a0 = some r) :
  Calls Tryz.prog 101 #[.int .i64 a0] w fun e w' => e = .returned (.int .i64 r) ∧ Drawn0 w w' := by
 have H : ((market_within.f a0 0 6400000).bind fun t101 => (some t101)) = some r := h
 clear h
 replace H := Option.bind_eq_some_iff.mp H
 obtain ⟨t101, A20, H⟩ := H
 replace H : (some t101) = some r := H
 have A2 := Aside0.mk A20
 clear A20
 obtain rfl := Option.some.inj H
 go_enter Tryz.func101, Tryz.ntmps101
 go_wp2_with (first | ((with_reducible refine gate_callee (f := 91) rfl ?_); refine gl_ (some 4) Tryz.func91 #[.int .i64 a0, .int .i64 0, .int .i64 6400000] ?_; (with_reducible refine (market_within.calls a0 0 6400000 t101 _ A2.out).mono ?_); rintro e w' ⟨rfl, ⟨nd, rfl⟩⟩; refine ⟨_, rfl, ?_⟩))
 go_ret
 exact ⟨by first | rfl | (simp; done) | (simp [*]; done), by repeat (first | exact Drawn0.refl _ | apply Drawn0.step)⟩
/-! ### nacellelaw08_numbers: function 36 -/
def nacellelaw08_numbers.f (l0 : List Int) : Option (List Int) := (some (([] : List Int) : List Int)).bind fun y101 => (if y101.length + l0.length < 17592186044416 then (some (y101 ++ l0)) else (none))
set_option maxHeartbeats 8000000 in
set_option maxRecDepth 100000 in
theorem nacellelaw08_numbers.calls (A0 : Option Addr) (c0 : Nat) (l0 : List Int) (r : List Int) (w : World) (hr0 : Kd.C (Kd.int .i64) w A0 l0.length l0) (hc0 : l0.length ≤ c0) (h : nacellelaw08_numbers.f l0 = some r) :
  Calls Tryz.prog 36 #[.slice A0 l0.length c0] w fun e w' => ∃ v0_ : Value, e = .returned (v0_) ∧ Kd.R (Kd.int .i64) 3 w' w.heap.size (fun _ => True) v0_ r ∧ Below w.heap.size w w' := by
 have HR0 := Aside0.mk hr0
 have HC0 := Aside0.mk hc0
 clear hr0 hc0
 have HB := Aside0.mk (Below.refl w.heap.size w)
 have H : ((some (([] : List Int) : List Int)).bind fun y101 => (if y101.length + l0.length < 17592186044416 then (some (y101 ++ l0)) else (none))) = some r := h
 clear h
 obtain ⟨y101, hy101⟩ : ∃ y_ : List Int, y_ = (([] : List Int)) := ⟨_, rfl⟩
 replace H : (if y101.length + l0.length < 17592186044416 then (some (y101 ++ l0)) else (none)) = some r := by first | (rw [hy101]; with_reducible exact H) | (have H2_ := (Option.bind_some _ _).symm.trans H; rw [hy101]; with_reducible exact H2_) | (have H2_ := (Option.bind_some _ _).symm.trans H; with_reducible exact H2_) | with_reducible exact H | (rw [hy101]; exact H) | exact H
 have Ny101 := Aside0.mk hy101
 clear hy101
 by_cases c2 : y101.length + l0.length < 17592186044416
 ·rw [if_pos c2] at H
  have LMc2 := Aside0.mk c2
  clear c2
  obtain ⟨y104, hy104⟩ : ∃ y_ : List Int, y_ = (y101 ++ l0) := ⟨_, rfl⟩
  replace H : (some y104) = some r := by first | (rw [hy104]; with_reducible exact H) | (have H2_ := (Option.bind_some _ _).symm.trans H; rw [hy104]; with_reducible exact H2_) | (have H2_ := (Option.bind_some _ _).symm.trans H; with_reducible exact H2_) | with_reducible exact H | (rw [hy104]; exact H) | exact H
  have Ny104 := Aside0.mk hy104
  clear hy104
  obtain rfl := Option.some.inj H
  go_enter Tryz.func36, Tryz.ntmps36
  go_wp2_with (first | ((with_reducible refine gate_dst (N := 3) rfl ?_); refine Kd.R_lit (Kd.int .i64) _ 3 ?hg (N := 3) ?hd (xs := ([] : List Int)) (inner := []) (ok := fun _ => True) (okp := fun _ => True) ?hr ?hp (fun _ hk => hk) trivial (Below.refl _ _) (Nat.le_refl _) (by simp) ?_; (case hd => rfl); (case hg => rfl); (case hr => first | (go_simp; done) | (go_simp; rfl)); (case hp => exact (Reps.none _ _)); intro v102 w3 ho4 hb hg_ hnew_; clear hg_ hnew_; (first | rw [← Ny101.out] at ho4 | (simp only [Int.reduceToNat] at ho4; rw [← Ny101.out] at ho4)); have n0_ := Aside0.mk (Kd.R_lower ho4 (below_size (ws_ HB.out))); have n1_ := Aside0.mk (below_step (ws_ HB.out) hb); clear HB; have HO103 := n0_; have HB := n1_; clear n0_ n1_; clear hb ho4) | ((with_reducible refine gate_builtin (b := .append) (xs := #[.tmp 3, .tmp 4]) rfl ?_); at_builtin; refine Kd.R_append_rows (Kd.int .i64) (w0 := w) w.heap.size rfl (.tmp 3) (.tmp 4) 52 3 (.int .i64 0) 8 rfl Tryz.underlying52 info3 rfl (by decide) (by omega) v102 y101 l0 _ _ _ (fun _ => True) (fun _ => False) rfl rfl ?aO ?aR (fun _ _ h => h) (fun _ h => h.elim) ?aF ?aB ?aS ?aL ?_; (case aR => exact cs_ (Kd.C_below HR0.out HB.out)); (case aB => exact (ws_ HB.out)); (case aF => exact (fun _ _ => trivial)); (case aO => exact (rs_ HO103.out)); (case aS => exact (below_size (ws_ HB.out))); (case aL => have := LMc2.out; omega); intro v105 w5 ho hb hg hat; rw [← Ny104.out] at ho; have n0_ := Aside0.mk (hb); have n1_ := Aside0.mk (ho); clear HB; clear HO103; have HB := n0_; have HO106 := n1_; clear n0_ n1_; clear ho hb hg hat))
  go_ret
  exact ⟨_, by first | rfl | (simp [errW_none, errW_some] <;> rfl) | (simp [*, errW_none, errW_some] <;> rfl), by (with_reducible repeat (first | apply Kd.R_alloc | apply Kd.R_drewN | apply Kd.R_drew)); exact HO106.out, by repeat (first | (with_reducible first | exact HB.out | apply below_alloc | apply pw_below_drewN | apply below_drew1) | exact HB.out)⟩
 ·rw [if_neg c2] at H
  exact absurd H (by simp)
/-! ### cmp_Or_int: function 165 -/
def cmp_Or_int.l0 : Nat → Int → List Int → Int → Int → Option (Int)
 | 0, _, _, _, _ => none
 | k + 1, x3, x6, x7, x8 => if x8 < x7 then (if 0 ≤ x8 then (if x8 < (x6.length : Int) then (if (rd x6 x8) = x3 then (cmp_Or_int.l0 k x3 x6 x7 (wrap64 (x8 + 1))) else (some (rd x6 x8))) else (none)) else (none)) else (some x3)
def cmp_Or_int.f (k : Nat) (l0 : List Int) : Option (Int) := cmp_Or_int.l0 k 0 l0 (l0.length : Int) 0
set_option maxHeartbeats 8000000 in
set_option maxRecDepth 100000 in
theorem cmp_Or_int.calls (k : Nat) (A0 : Option Addr) (c0 : Nat) (l0 : List Int) (r : Int) (w : World) (hr0 : Kd.C (Kd.int .i64) w A0 l0.length l0) (hc0 : l0.length ≤ c0) (h : cmp_Or_int.f k l0 = some r) :
  Calls Tryz.prog 165 #[.slice A0 l0.length c0] w fun e w' => e = .returned (.int .i64 r) ∧ Drawn0 w w' := by
 have HR0 := Aside0.mk hr0
 have HC0 := Aside0.mk hc0
 clear hr0 hc0
 have H : (cmp_Or_int.l0 k 0 l0 (l0.length : Int) 0) = some r := h
 clear h
 have H' := Aside0.mk H
 clear H
 go_enter Tryz.func165, Tryz.ntmps165
 go_wp2
 go_loopg [8] k (fun kq v8 w' => ∃ (x8_1 : Int), v8 = .int .i64 x8_1 ∧ Aside0 (cmp_Or_int.l0 kq 0 l0 (l0.length : Int) x8_1 = some r) ∧ Aside0 (kq ≤ k) ∧ Drawn0 w w')
 case atStart => exact ⟨(0), (by first | rfl | (simp; done) | (simp [*]; done)), H', ⟨Nat.le_refl _⟩, by repeat (first | exact Drawn0.refl _ | apply Drawn0.step)⟩
 case round =>
  clear H'
  try clear c1
  obtain ⟨x8_1, rfl, HA, HK1, ⟨m1, rfl⟩⟩ := hrel
  cases gk with
  | zero => exact absurd HA.out (by simp [cmp_Or_int.l0])
  | succ k1 =>
   have H := HA.out
   clear HA
   simp only [cmp_Or_int.l0] at H
   by_cases c2 : x8_1 < (l0.length : Int)
   ·rw [if_pos c2] at H
    have c2b0 : decide (x8_1 < (l0.length : Int)) = true := decide_eq_true c2
    clear c2
    by_cases c3 : 0 ≤ x8_1
    ·rw [if_pos c3] at H
     have c3b0 : decide (0 ≤ x8_1) = true := decide_eq_true c3
     clear c3
     by_cases c4 : x8_1 < (l0.length : Int)
     ·rw [if_pos c4] at H
      have c4b0 : decide (x8_1 < (l0.length : Int)) = true := decide_eq_true c4
      clear c4
      by_cases c5 : (rd l0 x8_1) = 0
      ·rw [if_pos c5] at H
       have c5b0 : ((rd l0 x8_1) == 0) = true := beq_iff_eq.mpr c5
       have c5b1 : ((rd l0 x8_1) != 0) = false := bne_eq_false_iff_eq.mpr c5
       clear c5
       have H' := Aside0.mk H
       clear H
       have p101 : 0 ≤ (x8_1 : Int) := of_decide_eq_true (by first | (with_reducible assumption) | assumption)
       have q101 : x8_1 < (l0.length : Int) := of_decide_eq_true (by first | (with_reducible assumption) | assumption)
       obtain ⟨ad101, e101, hx101_0⟩ := Kd.at_int HR0.out x8_1 p101 q101
       cases e101
       replace p101 := eq_true p101
       replace q101 := eq_true q101
       go_wp2
       go_roundg k1
       case measure => have := HK1.out; omega
       case rel => exact ⟨(wrap64 (x8_1 + 1)), (by first | rfl | (simp; done) | (simp [*]; done)), H', ⟨by have := HK1.out; omega⟩, by repeat (first | exact Drawn0.refl _ | apply Drawn0.step)⟩
      ·rw [if_neg c5] at H
       have c5b0 : ((rd l0 x8_1) == 0) = false := beq_eq_false_iff_ne.mpr c5
       have c5b1 : ((rd l0 x8_1) != 0) = true := bne_iff_ne.mpr c5
       obtain rfl := Option.some.inj H
       have p101 : 0 ≤ (x8_1 : Int) := of_decide_eq_true (by first | (with_reducible assumption) | assumption)
       have q101 : x8_1 < (l0.length : Int) := of_decide_eq_true (by first | (with_reducible assumption) | assumption)
       obtain ⟨ad101, e101, hx101_0⟩ := Kd.at_int HR0.out x8_1 p101 q101
       cases e101
       replace p101 := eq_true p101
       replace q101 := eq_true q101
       go_wp2
       go_ret
       exact ⟨by first | rfl | (simp; done) | (simp [*]; done), by repeat (first | exact Drawn0.refl _ | apply Drawn0.step)⟩
     ·rw [if_neg c4] at H
      exact absurd H (by simp)
    ·rw [if_neg c3] at H
     exact absurd H (by simp)
   ·rw [if_neg c2] at H
    have c2b0 : decide (x8_1 < (l0.length : Int)) = false := decide_eq_false c2
    clear c2
    obtain rfl := Option.some.inj H
    go_wp2
    go_ret
    exact ⟨by first | rfl | (simp; done) | (simp [*]; done), by repeat (first | exact Drawn0.refl _ | apply Drawn0.step)⟩
end Go.Proofs.YtfdlhbdcejlopaaGreatDoor.B
namespace Go.Proofs
open Go.Shelf
open Go.RowKit in
open Go.RowKit in
open Go.RowKit in
open Go.RowKit in
open Go.RowKit in
open Go.RowKit in
open Go.RowKit in
open Go.RowKit in
open Go.RowKit in
open Go.RowKit in
open Go.RowKit in
def Tryz.lays122_ren : Go.Shelf.Ren := ⟨fun | 122 => 166 | 215 => 194 | n => n, fun | 3 => 3 | 4 => 4 | n => n, fun | n => n⟩
theorem Tryz.lays122 : Go.Proofs.Lays.n122 Tryz.prog Tryz.lays122_ren := {
 mixed := by kernel_rfl
 f122 := Tryz.func166.trans (congrArg some (by kernel_rfl))
 f215 := Tryz.func194.trans (congrArg some (by kernel_rfl))
 t3 := Tryz.underlying3
 a3 := Tryz.isAgg3
 z3 := Tryz.sizeOf3
 v3 := Tryz.zeroValue3
 t4 := Tryz.underlying4
 a4 := Tryz.isAgg4
 z4 := Tryz.sizeOf4
 v4 := Tryz.zeroValue4 }
open Go.RowKit in
/-- cmp.Compare at int: "Compare returns -1 if x is less than y, 0 if x equals y, +1 if x is greater than y.": IT RETURNS 'Lib.compareInt x y'; the world is as_ it was. (LAID: no walk: one application.) -/
theorem Tryz.cmp_Compare_int (x y : Int) (w : World) :
  Calls Tryz.prog 166 #[.int .i64 x, .int .i64 y] w fun e w' => e = .returned (.int .i64 (Lib.compareInt x y)) ∧ w' = w := Any.cmp_Compare_int Tryz.lays122 x y w
open Go.RowKit in
open Go.RowKit in
open Go.RowKit in
open Go.RowKit in
open Go.RowKit in
open Go.RowKit in
open Go.RowKit in
open Go.RowKit in
open Go.RowKit in
open Go.Lib in
open Go.Lib in
open Go.Lib in
open Go.Lib in
open Go.RowKit Go.Sort Go.Lib in
open Go.RowKit Go.Sort Go.Lib in
open Go.RowKit Go.Sort Go.Lib in
open Go.RowKit Go.Sort Go.Lib in
open Go.RowKit Go.Sort Go.Lib in
open Go.RowKit Go.Sort Go.Lib in
open Go.RowKit Go.Sort Go.Lib in
open Go.RowKit Go.Lib in
open Go.RowKit Go.Lib in
open Go.RowKit Go.Lib in
open Go.RowKit Go.Lib in
open Go.RowKit Go.Lib in
open Go.RowKit Go.Lib in
open Go.RowKit Go.Lib in
open Go.RowKit Go.Lib in
open Go.RowKit Go.Lib in
open Go.RowKit Go.Lib in
open Go.RowKit Go.Lib in
open Go.RowKit Go.Lib in
open Go.RowKit Go.Lib in
def Tryz.lays189_ren : Go.Shelf.Ren := ⟨fun | 189 => 108 | 125 => 149 | 257 => 148 | 128 => 176 | 129 => 177 | 294 => 167 | 295 => 168 | 296 => 169 | 297 => 170 | 298 => 171 | 299 => 172 | 216 => 173 | 300 => 174 | 301 => 175 | 328 => 195 | 329 => 196 | 330 => 197 | 331 => 198 | 332 => 199 | 215 => 194 | 343 => 212 | n => n, fun | 28 => 52 | 3 => 3 | 46 => 227 | 0 => 0 | 51 => 251 | 53 => 253 | 4 => 4 | 183 => 245 | 182 => 244 | 131 => 231 | 5 => 5 | 9 => 9 | 218 => 266 | 222 => 270 | 228 => 281 | 229 => 190 | n => n, fun | n => n⟩
theorem Tryz.lays189 : Go.Proofs.Lays.n189 Tryz.prog Tryz.lays189_ren := {
 mixed := by kernel_rfl
 f125 := Tryz.func149.trans (congrArg some (by kernel_rfl))
 f128 := Tryz.func176.trans (congrArg some (by kernel_rfl))
 f129 := Tryz.func177.trans (congrArg some (by kernel_rfl))
 f189 := Tryz.func108.trans (congrArg some (by kernel_rfl))
 f215 := Tryz.func194.trans (congrArg some (by kernel_rfl))
 f216 := Tryz.func173.trans (congrArg some (by kernel_rfl))
 f257 := Tryz.func148.trans (congrArg some (by kernel_rfl))
 f294 := Tryz.func167.trans (congrArg some (by kernel_rfl))
 f295 := Tryz.func168.trans (congrArg some (by kernel_rfl))
 f296 := Tryz.func169.trans (congrArg some (by kernel_rfl))
 f297 := Tryz.func170.trans (congrArg some (by kernel_rfl))
 f298 := Tryz.func171.trans (congrArg some (by kernel_rfl))
 f299 := Tryz.func172.trans (congrArg some (by kernel_rfl))
 f300 := Tryz.func174.trans (congrArg some (by kernel_rfl))
 f301 := Tryz.func175.trans (congrArg some (by kernel_rfl))
 f328 := Tryz.func195.trans (congrArg some (by kernel_rfl))
 f329 := Tryz.func196.trans (congrArg some (by kernel_rfl))
 f330 := Tryz.func197.trans (congrArg some (by kernel_rfl))
 f331 := Tryz.func198.trans (congrArg some (by kernel_rfl))
 f332 := Tryz.func199.trans (congrArg some (by kernel_rfl))
 f343 := Tryz.func212.trans (congrArg some (by kernel_rfl))
 t0 := Tryz.underlying0
 a0 := Tryz.isAgg0
 z0 := Tryz.sizeOf0
 v0 := Tryz.zeroValue0
 t3 := Tryz.underlying3
 a3 := Tryz.isAgg3
 z3 := Tryz.sizeOf3
 v3 := Tryz.zeroValue3
 t4 := Tryz.underlying4
 a4 := Tryz.isAgg4
 z4 := Tryz.sizeOf4
 v4 := Tryz.zeroValue4
 t5 := Tryz.underlying5
 a5 := Tryz.isAgg5
 z5 := Tryz.sizeOf5
 v5 := Tryz.zeroValue5
 t9 := Tryz.underlying9
 a9 := Tryz.isAgg9
 z9 := Tryz.sizeOf9
 v9 := Tryz.zeroValue9
 t28 := Tryz.underlying52
 a28 := Tryz.isAgg52
 z28 := Tryz.sizeOf52
 v28 := Tryz.zeroValue52
 t46 := Tryz.underlying227
 a46 := Tryz.isAgg227
 z46 := Tryz.sizeOf227
 v46 := Tryz.zeroValue227
 t51 := Tryz.underlying251
 a51 := Tryz.isAgg251
 z51 := Tryz.sizeOf251
 v51 := Tryz.zeroValue251
 t53 := Tryz.underlying253
 a53 := Tryz.isAgg253
 z53 := Tryz.sizeOf253
 v53 := Tryz.zeroValue253
 t131 := Tryz.underlying231
 a131 := Tryz.isAgg231
 z131 := Tryz.sizeOf231
 v131 := Tryz.zeroValue231
 t182 := Tryz.underlying244
 a182 := Tryz.isAgg244
 z182 := Tryz.sizeOf244
 v182 := Tryz.zeroValue244
 t183 := Tryz.underlying245
 a183 := Tryz.isAgg245
 z183 := Tryz.sizeOf245
 v183 := Tryz.zeroValue245
 t218 := Tryz.underlying266
 a218 := Tryz.isAgg266
 z218 := Tryz.sizeOf266
 v218 := Tryz.zeroValue266
 t222 := Tryz.underlying270
 a222 := Tryz.isAgg270
 z222 := Tryz.sizeOf270
 v222 := Tryz.zeroValue270
 t228 := Tryz.underlying281
 a228 := Tryz.isAgg281
 z228 := Tryz.sizeOf281
 v228 := Tryz.zeroValue281
 t229 := Tryz.underlying190
 a229 := Tryz.isAgg190
 z229 := Tryz.sizeOf190
 v229 := Tryz.zeroValue190 }
open Go.Sort Go.RowKit in
theorem Tryz.slices_Sort_int (blk off cap : Nat) (zs : List Int) (w : World) (hH : Holds (Value.int .i64) w blk off zs.toArray) (hblk : blk < w.heap.size) (hsz : zs.length < 4611686018427387904) :
  Calls Tryz.prog 108 #[.slice (some ⟨blk, off, none⟩) zs.length cap] w fun e w' =>
   e = .returned (.tuple #[]) ∧ ∃ n os, w' = grow (putRow (Value.int .i64) (Sort.ahead w n) blk off (zs.mergeSort fun x y => decide (x ≤ y)).toArray) os := Any.slices_Sort_int Tryz.lays189 blk off cap zs w hH hblk hsz
open Go.RowKit Go.Lib in
open Go.RowKit Go.Lib in
open Go.RowKit Go.Lib in
open Go.RowKit Go.Lib in
open Go.RowKit Go.Lib in
open Go.RowKit Go.Lib in
open Go.RowKit Go.Lib in
open Go.RowKit Go.Lib in
open Go.RowKit Go.Lib in
open Go.RowKit Go.Lib in
open Go.RowKit Go.Lib in
open Go.RowKit Go.Lib in
def Tryz.laysNm220_ren : Go.Shelf.Ren := ⟨fun | 20 => 109 | n => n, fun | 22 => 52 | 3 => 3 | 4 => 4 | 0 => 0 | n => n, fun | n => n⟩
theorem Tryz.laysNm220 : Go.Proofs.Lays2.n20 Tryz.prog Tryz.laysNm220_ren := {
 mixed := by kernel_rfl
 f20 := Tryz.func109.trans (congrArg some (by kernel_rfl))
 t0 := Tryz.underlying0
 a0 := Tryz.isAgg0
 z0 := Tryz.sizeOf0
 v0 := Tryz.zeroValue0
 t3 := Tryz.underlying3
 a3 := Tryz.isAgg3
 z3 := Tryz.sizeOf3
 v3 := Tryz.zeroValue3
 t4 := Tryz.underlying4
 a4 := Tryz.isAgg4
 z4 := Tryz.sizeOf4
 v4 := Tryz.zeroValue4
 t22 := Tryz.underlying52
 a22 := Tryz.isAgg52
 z22 := Tryz.sizeOf52
 v22 := Tryz.zeroValue52
 i3 := by kernel_rfl }
open Go.RowKit Go.Lib Go.Sort in
open Go.RowKit Go.Lib Go.Sort in
/-- slices.Compact at []int: "Compact replaces consecutive runs of equal elements with a single copy. This is like the uniq command found on Unix. Compact modifies the contents of the slice s and returns the modified slice, which may have a smaller length. Compact zeroes the elements between the new length and the original length. The result preserves the nilness of s.": IT RETURNS THE SLICE CUT TO 'Lib.compact zs'; ITS CELLS HOLD 'Lib.compact zs', THEN ZERO VALUES up to the old length; all else is as_ it was, but for the count of draws. IN THE WORDS OF slices.Sort's CONTRACT ('Holds', 'putRow'): so the everyday 'slices.Sort(xs); xs = slices.Compact(xs)' goes from the one contract to the other. It asks 'zs.length ≤ cap' (every slice's: the reslicing 's[:k]' looks at it). Length 0, nil: '.._empty'. (LAID: no walk: one application.) -/
theorem Tryz.slices_Compact_int (blk off cap : Nat) (zs : List Int) (w : World) (hH : Holds (Value.int .i64) w blk off zs.toArray) (hsz : zs.length ≤ 9223372036854775807) (hcap : zs.length ≤ cap) :
  Calls Tryz.prog 109 #[.slice (some ⟨blk, off, none⟩) zs.length cap] w fun e w' => e = .returned (.slice (some ⟨blk, off, none⟩) (Lib.compact zs).length cap) ∧ ∃ q, w' = putRow (Value.int .i64) (Sort.ahead w q) blk off (Lib.compact zs ++ List.replicate (zs.length - (Lib.compact zs).length) 0).toArray := Any.slices_Compact_int Tryz.laysNm220 blk off cap zs w hH hsz hcap
open Go.RowKit Go.Lib Go.Sort in
/-- The same at a slice of length 0, a nil one too: it comes back as_ it is. (LAID: no walk: one application.) -/
theorem Tryz.slices_Compact_int_empty (a : Option Addr) (cap : Nat) (w : World) :
  Calls Tryz.prog 109 #[.slice a 0 cap] w fun e w' => e = .returned (.slice a 0 cap) ∧ w' = w := Any.slices_Compact_int_empty Tryz.laysNm220 a cap w
open Go.RowKit Go.Lib in
open Go.RowKit Go.Lib in
open Go.RowKit Go.Lib Go.Sort in
open Go.RowKit Go.Sort in
/-- .. and plain. (LAID: no walk: one application.) -/
theorem Tryz.slices_Sort_int_none (p : Option Addr) (cap : Nat) (w : World) :
  Calls Tryz.prog 108 #[.slice p 0 cap] w fun e w' => e = .returned (.tuple #[]) ∧ w' = w := Any.slices_Sort_int_none Tryz.lays189 p cap w
end Go.Proofs
namespace Go.Proofs.YtfdlhbdcejlopaaGreatDoor.B
open Go.RowKit Go.Sort Go.Proofs.YtfdlhbdcejlopaaGreatDoorW.PrintWords Go.Proofs.YtfdlhbdcejlopaaGreatDoorW.PrintLast Go.Proofs.YtfdlhbdcejlopaaGreatDoorW.PrintMore
set_option linter.unusedVariables false
set_option linter.unusedSimpArgs false
def Gr (w W : World) : Prop := ∃ q os, W = grow (w.drewN q) os
theorem Gr.refl (w : World) : Gr w w := ⟨0, #[], by simp [grow, World.drewN]⟩
theorem Gr.alloc {w W : World} (h : Gr w W) (o : Obj) : Gr w (W.alloc o) := by
 obtain ⟨q, os, rfl⟩ := h
 exact ⟨q, os ++ #[o], by rw [alloc_eq_grow, grow_grow]⟩
theorem Gr.drewN {w W : World} (h : Gr w W) (n : Nat) : Gr w (W.drewN n) := by
 obtain ⟨q, os, rfl⟩ := h
 exact ⟨q + n, os, by simp [grow, World.drewN, Nat.add_assoc]⟩
theorem Gr.drew {w W : World} (h : Gr w W) : Gr w W.drew := by
 obtain ⟨q, os, rfl⟩ := h
 exact ⟨q + 1, os, by simp [grow, World.drewN, World.drew, Nat.add_assoc]⟩
def orI (a b : Int) : Int := if a = 0 then b else a
theorem or_two (a b : Int) : cmp_Or_int.f 4 [a, b] = some (orI a b) := by
 unfold cmp_Or_int.f orI
 have w1 : wrap64 1 = 1 := by unfold wrap64; omega
 have w2 : wrap64 2 = 2 := by unfold wrap64; omega
 by_cases ha : a = 0 <;> by_cases hb : b = 0 <;> simp [cmp_Or_int.l0, Go.Proofs.YtfdlhbdcejlopaaGreatDoorW.PrintWords.rd, ha, hb, w1, w2]
def partCmp (x y : Int × Int) : Int := orI (Lib.compareInt y.2 x.2) (Lib.compareInt x.1 y.1)
theorem lit2_reads (W : World) (a b : Int) : Kd.C (Kd.int .i64) (W.alloc (.cells #[.int .i64 a, .int .i64 b] 3)) (some ⟨W.heap.size, 0, none⟩) [a, b].length [a, b] := by
 refine Kd.C_of_reads (d := (0 : Int)) ⟨rfl, ?_, fun _ => ⟨_, rfl, ?_⟩⟩
 ·show 2 ≤ _
  omega
 ·intro j hj
  have hj2 : j < 2 := hj
  match j, hj2 with
  | 0, _ => go_simp
  | 1, _ => go_simp
def market_part_compare.T1 : Bool × List (List Nat × List Nat) := (true, [([], []), ([0], [0]), ([], []), ([2], [2]), ([1, 3], [1, 3]), ([], []), ([5], [5]), ([], []), ([7], [7]), ([6, 8, 4], [6, 8]), ([4, 9], [4, 9]), ([10, 9], [10]), ([11, 11, 0, 1, 2, 3, 4, 5, 6, 7, 8, 9, 10, 11], [11])])
def market_part_compare.B1 : List Nat := [0, 1, 0, 4, 15, 0, 32, 0, 128, 511, 1023, 2047, 4095]
theorem market_part_compare.tab1 : rtab .any (opsOf Tryz.f147 1) = market_part_compare.T1 := by kernel_rfl
theorem market_part_compare.bits1 : waitsOk market_part_compare.T1.2 market_part_compare.B1 = true := by kernel_rfl
set_option maxHeartbeats 8000000 in
set_option maxRecDepth 100000 in
theorem partCmp_calls (a0_0 a0_1 a1_0 a1_1 r : Int) (w : World) (h : partCmp (a0_0, a0_1) (a1_0, a1_1) = r) :
  Calls Tryz.prog 147 #[.agg #[.int .i64 a0_0, .int .i64 a0_1], .agg #[.int .i64 a1_0, .int .i64 a1_1]] w fun e w' => e = .returned (.int .i64 r) ∧ Gr w w' := by
 have hu221 := Tryz.underlying221
 obtain ⟨t103, ht3⟩ : ∃ t, Lib.compareInt a1_1 a0_1 = t := ⟨_, rfl⟩
 obtain ⟨t104, ht4⟩ : ∃ t, Lib.compareInt a0_0 a1_0 = t := ⟨_, rfl⟩
 have HR : Aside0 (orI t103 t104 = r) := ⟨by rw [← ht3, ← ht4]; exact h⟩
 have A3 := Aside0.mk ht3
 have A4 := Aside0.mk ht4
 clear h ht3 ht4
 go_enter Tryz.func147, Tryz.ntmps147
 go_wp2
 have GR := Aside0.mk (Gr.alloc (Gr.alloc (Gr.refl w) (.cells #[.int .i64 a0_0, .int .i64 a0_1] 221)) (.cells #[.int .i64 a1_0, .int .i64 a1_1] 221))
 have BK101 : Aside0 (((w.alloc (.cells #[.int .i64 a0_0, .int .i64 a0_1] 221)).alloc (.cells #[.int .i64 a1_0, .int .i64 a1_1] 221)).heap[w.heap.size]? = some (.cells #[.int .i64 a0_0, .int .i64 a0_1] 221 (0, 0))) := ⟨blk_alloc (heap_alloc_new w _) _⟩
 have BK102 : Aside0 (((w.alloc (.cells #[.int .i64 a0_0, .int .i64 a0_1] 221)).alloc (.cells #[.int .i64 a1_0, .int .i64 a1_1] 221)).heap[w.heap.size + 1]? = some (.cells #[.int .i64 a1_0, .int .i64 a1_1] 221 (0, 0))) := ⟨by have := heap_alloc_new (w.alloc (.cells #[.int .i64 a0_0, .int .i64 a0_1] 221)) (.cells #[.int .i64 a1_0, .int .i64 a1_1] 221); rwa [World.size_alloc] at this⟩
 generalize (w.alloc (.cells #[.int .i64 a0_0, .int .i64 a0_1] 221)).alloc (.cells #[.int .i64 a1_0, .int .i64 a1_1] 221) = W7 at GR BK101 BK102 ⊢
 refine start_ (n := 13) (S := fun w' => w'.cell? ⟨w.heap.size + 1, 0, none⟩ = some (.int .i64 a1_0) ∧ w'.cell? ⟨w.heap.size + 1, 1, none⟩ = some (.int .i64 a1_1) ∧ w'.cell? ⟨w.heap.size, 0, none⟩ = some (.int .i64 a0_0) ∧ w'.cell? ⟨w.heap.size, 1, none⟩ = some (.int .i64 a0_1)) (ds := []) #[false, false, false, false, false, false, false, false, false, false, false, false, false] (by kernel_rfl) rfl rfl ⟨(blk_cell BK102.out 0).trans rfl, (blk_cell BK102.out 1).trans rfl, (blk_cell BK101.out 0).trans rfl, (blk_cell BK101.out 1).trans rfl⟩ (fun hHeld => ?_); refine with_tabW market_part_compare.tab1 market_part_compare.bits1 (fun HT_ HW_ => ?_)
 have BK101 := Aside0.mk (blk_drew BK101.out)
 have BK102 := Aside0.mk (blk_drew BK102.out)
 have GR := Aside0.mk (Gr.drew GR.out)
 generalize W7.drew = w8 at BK101 BK102 GR hHeld ⊢
 refine pv_ 0 5 #[true, false, false, false, false, false, false, false, false, false, false, false, false] (any_of HT_.out (by kernel_rfl)) ?_
 refine pv_ 2 7 #[true, false, true, false, false, false, false, false, false, false, false, false, false] (any_of HT_.out (by kernel_rfl)) ?_
 refine pv_ 5 10 #[true, false, true, false, false, true, false, false, false, false, false, false, false] (any_of HT_.out (by kernel_rfl)) ?_
 refine pv_ 7 12 #[true, false, true, false, false, true, false, true, false, false, false, false, false] (any_of HT_.out (by kernel_rfl)) ?_
 refine take_ (i := 1) (N := some 6) (v := ?_) (a' := ?_) #[true, true, true, false, false, true, false, true, false, false, false, false, false] rfl rfl (take_ofW HT_.out HW_.out (by kernel_rfl)) (fun _ _ _ h => h) (Or.inl ⟨by rfl, ?_⟩) hHeld ?_ ?_
 rotate_left
 ·rintro w' ⟨s0, s1, s2, s3⟩
  go_simp
  with_reducible rfl
 rotate_left
 ·simp only [Act.put, List.setIfInBounds_toArray, List.set_cons_zero, List.set_cons_succ, i64_w, i32_w]
  rfl
 refine take_ (i := 3) (N := some 8) (v := ?_) (a' := ?_) #[true, true, true, true, false, true, false, true, false, false, false, false, false] rfl rfl (take_ofW HT_.out HW_.out (by kernel_rfl)) (fun _ _ _ h => h) (Or.inl ⟨by rfl, ?_⟩) hHeld ?_ ?_
 rotate_left
 ·rintro w' ⟨s0, s1, s2, s3⟩
  go_simp
  with_reducible rfl
 rotate_left
 ·simp only [Act.put, List.setIfInBounds_toArray, List.set_cons_zero, List.set_cons_succ, i64_w, i32_w]
  rfl
 refine take_ (i := 6) (N := some 11) (v := ?_) (a' := ?_) #[true, true, true, true, false, true, true, true, false, false, false, false, false] rfl rfl (take_ofW HT_.out HW_.out (by kernel_rfl)) (fun _ _ _ h => h) (Or.inl ⟨by rfl, ?_⟩) hHeld ?_ ?_
 rotate_left
 ·rintro w' ⟨s0, s1, s2, s3⟩
  go_simp
  with_reducible rfl
 rotate_left
 ·simp only [Act.put, List.setIfInBounds_toArray, List.set_cons_zero, List.set_cons_succ, i64_w, i32_w]
  rfl
 refine take_ (i := 8) (N := some 13) (v := ?_) (a' := ?_) #[true, true, true, true, false, true, true, true, true, false, false, false, false] rfl rfl (take_ofW HT_.out HW_.out (by kernel_rfl)) (fun _ _ _ h => h) (Or.inl ⟨by rfl, ?_⟩) hHeld ?_ ?_
 rotate_left
 ·rintro w' ⟨s0, s1, s2, s3⟩
  go_simp
  with_reducible rfl
 rotate_left
 ·simp only [Act.put, List.setIfInBounds_toArray, List.set_cons_zero, List.set_cons_succ, i64_w, i32_w]
  rfl
 refine one_ (i := 4) (N := some 9) #[true, true, true, true, true, true, true, true, true, false, false, false, false] rfl rfl (one_of HT_.out (by kernel_rfl)) (by decide) (fun K hK => ?_)
 refine goes_ Tryz.func166 (by kernel_rfl) rfl #[.int .i64 a1_1, .int .i64 a0_1] (by rfl) rfl rfl (by (try simp only [List.map_toArray, List.map_cons, List.map_nil]); first | done | rfl | (simp only [List.length_drop, List.length_take]; rfl)) ?_
 refine (Tryz.cmp_Compare_int a1_1 a0_1 _).mono ?_
 rintro e w' ⟨rfl, hw⟩
 rw [hw, A3.out]
 clear hw w'
 refine ⟨_, rfl, ?_⟩
 refine hK.out _ _ ⟨(blk_cell BK102.out 0).trans rfl, (blk_cell BK102.out 1).trans rfl, (blk_cell BK101.out 0).trans rfl, (blk_cell BK101.out 1).trans rfl⟩ (fun hHeld => ?_)
 clear hK K
 refine norm_ (a' := ?_) ?_ ?_
 rotate_left
 ·show Act.put _ (some 9) _ = _
  simp only [Act.put, List.setIfInBounds_toArray, List.set_cons_zero, List.set_cons_succ, i64_w, i32_w]
  rfl
 refine one_ (i := 9) (N := some 14) #[true, true, true, true, true, true, true, true, true, true, false, false, false] rfl rfl (one_of HT_.out (by kernel_rfl)) (by decide) (fun K hK => ?_)
 refine goes_ Tryz.func166 (by kernel_rfl) rfl #[.int .i64 a0_0, .int .i64 a1_0] (by rfl) rfl rfl (by (try simp only [List.map_toArray, List.map_cons, List.map_nil]); first | done | rfl | (simp only [List.length_drop, List.length_take]; rfl)) ?_
 refine (Tryz.cmp_Compare_int a0_0 a1_0 _).mono ?_
 rintro e w' ⟨rfl, hw⟩
 rw [hw, A4.out]
 clear hw w'
 refine ⟨_, rfl, ?_⟩
 refine hK.out _ _ ⟨(blk_cell BK102.out 0).trans rfl, (blk_cell BK102.out 1).trans rfl, (blk_cell BK101.out 0).trans rfl, (blk_cell BK101.out 1).trans rfl⟩ (fun hHeld => ?_)
 clear hK K
 refine norm_ (a' := ?_) ?_ ?_
 rotate_left
 ·show Act.put _ (some 14) _ = _
  simp only [Act.put, List.setIfInBounds_toArray, List.set_cons_zero, List.set_cons_succ, i64_w, i32_w]
  rfl
 refine one_ (i := 10) (N := some 15) #[true, true, true, true, true, true, true, true, true, true, true, false, false] rfl rfl (one_of HT_.out (by kernel_rfl)) (by decide) (fun K hK => ?_)
 refine value_ (v := .slice (some ⟨w8.heap.size, 0, none⟩) 2 2) (w1 := w8.alloc (.cells #[.int .i64 t103, .int .i64 t104] 3)) (by rfl) rfl ?_ ?_
 ·go_simp
 have n1_ := Aside0.mk (blk_alloc BK101.out (.cells #[.int .i64 t103, .int .i64 t104] 3))
 have n2_ := Aside0.mk (blk_alloc BK102.out (.cells #[.int .i64 t103, .int .i64 t104] 3))
 have n3_ := Aside0.mk (Gr.alloc GR.out (.cells #[.int .i64 t103, .int .i64 t104] 3))
 have HL_ := Aside0.mk (lit2_reads w8 t103 t104)
 clear BK101 BK102 GR
 have BK101 := n1_
 have BK102 := n2_
 have GR := n3_
 clear n1_ n2_ n3_
 refine hK.out _ _ ⟨(blk_cell BK102.out 0).trans rfl, (blk_cell BK102.out 1).trans rfl, (blk_cell BK101.out 0).trans rfl, (blk_cell BK101.out 1).trans rfl⟩ (fun hHeld => ?_)
 clear hK K
 refine norm_ (a' := ?_) ?_ ?_
 rotate_left
 ·show Act.put _ (some 15) _ = _
  simp only [Act.put, List.setIfInBounds_toArray, List.set_cons_zero, List.set_cons_succ, i64_w, i32_w]
  rfl
 refine one_ (i := 11) (N := some 16) #[true, true, true, true, true, true, true, true, true, true, true, true, false] rfl rfl (one_of HT_.out (by kernel_rfl)) (by decide) (fun K hK => ?_)
 refine goes_ Tryz.func165 (by kernel_rfl) rfl #[.slice (some ⟨w8.heap.size, 0, none⟩) 2 2] (by rfl) rfl rfl (by (try simp only [List.map_toArray, List.map_cons, List.map_nil]); first | done | rfl | (simp only [List.length_drop, List.length_take]; rfl)) ?_
 refine (cmp_Or_int.calls 4 _ _ [t103, t104] _ _ HL_.out (by simp) (or_two t103 t104)).mono ?_
 rintro e w' ⟨rfl, ⟨nd, rfl⟩⟩
 refine ⟨_, rfl, ?_⟩
 refine hK.out _ _ ⟨(blk_cell BK102.out 0).trans rfl, (blk_cell BK102.out 1).trans rfl, (blk_cell BK101.out 0).trans rfl, (blk_cell BK101.out 1).trans rfl⟩ (fun hHeld => ?_)
 clear hK K
 refine norm_ (a' := ?_) ?_ ?_
 rotate_left
 ·show Act.put _ (some 16) _ = _
  simp only [Act.put, List.setIfInBounds_toArray, List.set_cons_zero, List.set_cons_succ, i64_w, i32_w]
  rfl
 refine pv_ 12 4 #[true, true, true, true, true, true, true, true, true, true, true, true, true] (any_of HT_.out (by kernel_rfl)) ?_
 refine done_ (done_of HT_.out (by kernel_rfl)) ?_
 try go_wp2
 go_ret
 refine ⟨by rw [← HR.out]; rfl, ?_⟩
 exact Gr.drewN GR.out nd
end Go.Proofs.YtfdlhbdcejlopaaGreatDoor.B
namespace Go.Proofs.YtfdlhbdcejlopaaGreatDoor.B
open Go.RowKit Go.Sort Go.Proofs.YtfdlhbdcejlopaaGreatDoorW.PrintWords Go.Proofs.YtfdlhbdcejlopaaGreatDoorW.PrintLast Go.Proofs.YtfdlhbdcejlopaaGreatDoorW.PrintMore
set_option linter.unusedVariables false
def sortI (xs : List Int) : List Int := xs.mergeSort fun x y => decide (x ≤ y)
theorem sortI_length (xs : List Int) : (sortI xs).length = xs.length := List.length_mergeSort _
theorem sortI_perm (xs : List Int) : (sortI xs).Perm xs := List.mergeSort_perm _ _
theorem sortI_sorted (xs : List Int) : (sortI xs).Pairwise (· ≤ ·) := by
 have h := List.pairwise_mergeSort (le := fun x y : Int => decide (x ≤ y)) (fun a b c h1 h2 => by simp only [decide_eq_true_eq] at *; omega) (fun a b => by simp only [Bool.or_eq_true, decide_eq_true_eq]; omega) xs
 exact h.imp (by intro a b hab; simpa using hab)
def ins (x : Int) : List Int → List Int
 | [] => [x]
 | y :: l => if x ≤ y then x :: y :: l else y :: ins x l
def isort : List Int → List Int
 | [] => []
 | x :: l => ins x (isort l)
theorem w64 (n : Int) (h : -9223372036854775808 ≤ n ∧ n ≤ 9223372036854775807) : wrap64 n = n := by unfold wrap64; omega
theorem ins_perm (x : Int) : ∀ l, (ins x l).Perm (x :: l)
 | [] => List.Perm.refl _
 | y :: l => by
  unfold ins
  split
  ·exact List.Perm.refl _
  ·exact ((ins_perm x l).cons y).trans (List.Perm.swap x y l)
theorem isort_perm : ∀ l, (isort l).Perm l
 | [] => List.Perm.refl _
 | x :: l => (ins_perm x _).trans ((isort_perm l).cons x)
theorem ins_sorted (x : Int) : ∀ l : List Int, l.Pairwise (· ≤ ·) → (ins x l).Pairwise (· ≤ ·)
 | [], _ => by simp [ins]
 | y :: l, h => by
  rw [List.pairwise_cons] at h
  unfold ins
  split
  ·rw [List.pairwise_cons]
   refine ⟨fun z hz => ?_, List.pairwise_cons.2 h⟩
   rcases List.mem_cons.1 hz with rfl | hz
   ·assumption
   ·exact Int.le_trans (by assumption) (h.1 z hz)
  ·rw [List.pairwise_cons]
   refine ⟨fun z hz => ?_, ins_sorted x l h.2⟩
   rcases List.mem_cons.1 ((ins_perm x l).mem_iff.1 hz) with rfl | hz
   ·omega
   ·exact h.1 z hz
theorem isort_sorted : ∀ l, (isort l).Pairwise (· ≤ ·)
 | [] => List.Pairwise.nil
 | x :: l => ins_sorted x _ (isort_sorted l)
theorem sortI_isort (xs : List Int) : sortI xs = isort xs :=
 List.Perm.eq_of_pairwise (le := (· ≤ ·)) (fun a b _ _ h1 h2 => Int.le_antisymm h1 h2) (sortI_sorted xs) (isort_sorted xs) ((sortI_perm xs).trans (isort_perm xs).symm)
theorem isort_length (xs : List Int) : (isort xs).length = xs.length := (isort_perm xs).length_eq
theorem sort_R {w0 w : World} {base : Nat} {ok : Nat → Prop} {v : Value} {xs : List Int} (HO : (Kd.int .i64).R 3 w base ok v xs) (HB : Below base w0 w) (hbs : base ≤ w.heap.size) (hl : xs.length < 17592186044416) :
  Calls Tryz.prog 108 #[v] w fun e w' => e = .returned (.tuple #[]) ∧ (Kd.int .i64).R 3 w' base ok v (isort xs) ∧ Below base w0 w' ∧ w.grownBy w' v.ownBlock := by
 rw [← sortI_isort xs]
 have hown := Kd.own_of_R (enc := Value.int .i64) (h1 := fun _ => rfl) HO
 rcases hown.2 with ⟨rfl, h0⟩ | ⟨g, cap, cur, rfl, hbase, hb, h1, h2, h3, h4⟩
 ·have hx : xs = [] := by simpa using h0
  subst hx
  refine (Tryz.slices_Sort_int_none none 0 w).mono ?_
  rintro e w' ⟨rfl, rfl⟩
  exact ⟨rfl, by rw [sortI_isort]; exact Kd.R_nil _ _ _ _ _, HB, ⟨rfl, rfl, rfl, Nat.le_refl _, fun _ _ _ => rfl⟩⟩
 ·have ht : cur.toList.take xs.length = xs.map (Value.int .i64) := by simpa [encs] using h4
  refine (Tryz.slices_Sort_int g 0 cap xs w (holds_of_blockI hb ht) (Array.getElem?_eq_some_iff.1 hb).1 (by omega)).mono ?_
  rintro e w' ⟨rfl, n, os, rfl⟩
  have hg := grownBy_sortedI (w := w) (g := g) (n := n) (os := os) (sortI xs).toArray
  refine ⟨rfl, ?_, ?_, hg⟩
  ·have := ownsRow_sortedI (n := n) (os := os) (ss := xs) (ts := sortI xs) (sortI_length xs) hbase hb h1 h2 h3
   rw [← sortI_length xs] at this ⊢
   exact Kd.R_of_own this HO.1
  ·exact HB.grown hg hbs (fun k e => by cases e; exact hbase)
open Go.Lib in
theorem compact_length_le (xs : List Int) : (Lib.compact xs).length ≤ xs.length := by
 unfold Lib.compact Lib.compactUpTo
 rw [List.length_map]
 refine Nat.le_trans (List.length_filter_le _ _) ?_
 simp
theorem compact_R {w0 w : World} {base : Nat} {ok : Nat → Prop} {v : Value} {xs : List Int} (HO : (Kd.int .i64).R 3 w base ok v xs) (HB : Below base w0 w) (hbs : base ≤ w.heap.size) (hl : xs.length < 17592186044416) :
  Calls Tryz.prog 109 #[v] w fun e w' => ∃ v', e = .returned v' ∧ (Kd.int .i64).R 3 w' base ok v' (Lib.compact xs) ∧ Below base w0 w' ∧ w.grownBy w' v.ownBlock ∧ v'.ownBlock = v.ownBlock := by
 have hown := Kd.own_of_R (enc := Value.int .i64) (h1 := fun _ => rfl) HO
 rcases hown.2 with ⟨rfl, h0⟩ | ⟨g, cap, cur, rfl, hbase, hb, h1, h2, h3, h4⟩
 ·have hx : xs = [] := by simpa using h0
  subst hx
  refine (Tryz.slices_Compact_int_empty none 0 w).mono ?_
  rintro e w' ⟨rfl, rfl⟩
  exact ⟨_, rfl, by rw [show Lib.compact ([] : List Int) = [] from rfl]; exact Kd.R_nil _ _ _ _ _, HB, ⟨rfl, rfl, rfl, Nat.le_refl _, fun _ _ _ => rfl⟩, rfl⟩
 ·have ht : cur.toList.take xs.length = xs.map (Value.int .i64) := by simpa [encs] using h4
  refine (Tryz.slices_Compact_int g 0 cap xs w (holds_of_blockI hb ht) (by omega) h1).mono ?_
  rintro e w' ⟨rfl, q, rfl⟩
  have hle := compact_length_le xs
  obtain ⟨ts, hts⟩ : ∃ ts, ts = Lib.compact xs ++ List.replicate (xs.length - (Lib.compact xs).length) 0 := ⟨_, rfl⟩
  have hlen : ts.length = xs.length := by rw [hts, List.length_append, List.length_replicate]; omega
  rw [← hts]
  have hgw : ∀ W : World, grow W #[] = W := fun W => by simp [grow]
  have hg := grownBy_sortedI (w := w) (g := g) (n := q) (os := #[]) ts.toArray
  have ho := ownsRow_sortedI (n := q) (os := #[]) (ss := xs) (ts := ts) hlen hbase hb h1 h2 h3
  rw [hgw] at hg ho
  refine ⟨_, rfl, ?_, ?_, hg, rfl⟩
  ·refine Kd.R_of_own ?_ HO.1
   rcases ho.2 with ⟨h0, _⟩ | ⟨g', cap', cur', hv, hbase', hb', h1', h2', h3', h4'⟩
   ·cases h0
   cases hv
   refine ⟨by simp [encs], .inr ⟨g, cap, cur', rfl, hbase, hb', by omega, h2, h3', ?_⟩⟩
   have h5 : cur'.toList.take xs.length = ts.map (Value.int .i64) := by simpa using h4'
   have h6 : (cur'.toList.take xs.length).take (Lib.compact xs).length = (ts.map (Value.int .i64)).take (Lib.compact xs).length := by rw [h5]
   rw [List.take_take, Nat.min_eq_left hle] at h6
   rw [Nat.mul_one, h6, hts, List.map_append, List.take_append_of_le_length (by simp), List.take_of_length_le (by simp)]
   rfl
  ·exact HB.grown hg hbs (fun k e => by cases e; exact hbase)
end Go.Proofs.YtfdlhbdcejlopaaGreatDoor.B
namespace Go.Proofs.YtfdlhbdcejlopaaGreatDoor.B
open Go.RowKit Go.Proofs.YtfdlhbdcejlopaaGreatDoorW.PrintWords Go.Proofs.YtfdlhbdcejlopaaGreatDoorW.PrintLast Go.Proofs.YtfdlhbdcejlopaaGreatDoorW.PrintMore
section
variable {P : Program} {ops : Array Oper} {rest : List Oper} {o : Oper} {a : Act} {Q : Exit → Act → World → Prop}
theorem arr_event {W : World} {v : Value} {N : Option Tmp} (hgd : o.guard = none) (hd : o.dst = N) (hrun : (execOp a.eval o).run P W = .ok (.value v) W)
  (h : ∀ v' w', v' = v → w' = W → wpList P ops Q rest (a.put N v') w') : wpList P ops Q (o :: rest) a W :=
 Kd.event_run hgd hrun (by rw [hd]; exact h v W rfl rfl)
end
theorem below_eq {W w : World} (h : w = W) : Below W.heap.size W w := by rw [h]; exact Below.refl _ _
theorem R_arr5 {W : World} {base g t : Nat} {a b c d e : Int} (hg : base ≤ g) (hb : W.heap[g]? = some (.cells #[.int .i64 a, .int .i64 b, .int .i64 c, .int .i64 d, .int .i64 e] t (0, 0))) :
  Kd.R (Kd.int .i64) t W base (fun _ => True) (.slice (some ⟨g, 0, none⟩) 5 5) [a, b, c, d, e] := by
 refine Kd.R_of_own ?_ (fun _ _ => trivial)
 exact ⟨rfl, .inr ⟨g, 5, _, rfl, hg, hb, Nat.le_refl _, by decide, rfl, rfl⟩⟩
set_option linter.unusedSimpArgs false
theorem eqA183 (d : Nat) (w : World) (x0 y0 : Int) (x1 y1 : Int) (x2 y2 : Int) (x3 y3 : Int) (x4 y4 : Int) :
  (Op.equalIn (d + 2) 183 (.agg #[.int .i64 x0, .int .i64 x1, .int .i64 x2, .int .i64 x3, .int .i64 x4]) (.agg #[.int .i64 y0, .int .i64 y1, .int .i64 y2, .int .i64 y3, .int .i64 y4])).run Tryz.prog w = .ok (x0 == y0 && (x1 == y1 && (x2 == y2 && (x3 == y3 && (x4 == y4))))) w := by
 have h0 : ∀ (x y : Int), (Op.equalIn (d + 1) 3 (.int .i64 x) (.int .i64 y)).run Tryz.prog w = .ok (x == y) w := fun x y => by go_simp
 have p0 : ∀ (a b c d e : Int), (part 3 #[.int .i64 a, .int .i64 b, .int .i64 c, .int .i64 d, .int .i64 e] 0).run Tryz.prog w = .ok (.int .i64 a) w := fun a b c d e => by go_simp
 have p1 : ∀ (a b c d e : Int), (part 3 #[.int .i64 a, .int .i64 b, .int .i64 c, .int .i64 d, .int .i64 e] 1).run Tryz.prog w = .ok (.int .i64 b) w := fun a b c d e => by go_simp
 have p2 : ∀ (a b c d e : Int), (part 3 #[.int .i64 a, .int .i64 b, .int .i64 c, .int .i64 d, .int .i64 e] 2).run Tryz.prog w = .ok (.int .i64 c) w := fun a b c d e => by go_simp
 have p3 : ∀ (a b c d e : Int), (part 3 #[.int .i64 a, .int .i64 b, .int .i64 c, .int .i64 d, .int .i64 e] 3).run Tryz.prog w = .ok (.int .i64 d) w := fun a b c d e => by go_simp
 have p4 : ∀ (a b c d e : Int), (part 3 #[.int .i64 a, .int .i64 b, .int .i64 c, .int .i64 d, .int .i64 e] 4).run Tryz.prog w = .ok (.int .i64 e) w := fun a b c d e => by go_simp
 have hr : List.range' 0 5 = [0, 1, 2, 3, 4] := by decide
 rw [Op.equalIn]
 simp [Sem.run_bind, hr, List.forIn_cons, p0, h0]
 by_cases e0 : x0 = y0
 ·simp [e0, Sem.run_bind, p1, h0]
  by_cases e1 : x1 = y1
  ·simp [e1, Sem.run_bind, p2, h0]
   by_cases e2 : x2 = y2
   ·simp [e2, Sem.run_bind, p3, h0]
    by_cases e3 : x3 = y3
    ·simp [e3, Sem.run_bind, p4, h0]
     by_cases e4 : x4 = y4
     ·simp [e4]
     ·simp [e4]
    ·simp [e3]
   ·simp [e2]
  ·simp [e1]
 ·simp [e0]
def idI.f (x : Int) : Option Int := some x
end Go.Proofs.YtfdlhbdcejlopaaGreatDoor.B
namespace Go.Proofs
open Go.Shelf
def Tryz.sortPart_ren : Go.Shelf.Ren := ⟨fun | 6 => 146 | 15 => 149 | 14 => 164 | 28 => 176 | 29 => 177 | 20 => 186 | 21 => 187 | 22 => 188 | 23 => 189 | 24 => 190 | 25 => 191 | 26 => 192 | 27 => 193 | 46 => 209 | 47 => 196 | 48 => 197 | 49 => 210 | 50 => 211 | 57 => 221 | n => n, fun | 22 => 219 | 24 => 221 | 25 => 223 | 3 => 3 | 39 => 227 | 0 => 0 | 53 => 251 | 55 => 253 | 4 => 4 | 46 => 245 | 45 => 244 | 50 => 231 | 5 => 5 | 9 => 9 | 66 => 266 | 70 => 270 | 76 => 281 | 77 => 190 | n => n, fun | n => n⟩
theorem Tryz.sortPart : Go.Proofs.SlLaysF0.n6 Tryz.prog Tryz.sortPart_ren := {
 mixed := by kernel_rfl
 f6 := ⟨Tryz.f146.name, by decide, Tryz.func146.trans (congrArg some (by kernel_rfl))⟩
 f14 := ⟨Tryz.f164.name, by decide, Tryz.func164.trans (congrArg some (by kernel_rfl))⟩
 f15 := Tryz.func149.trans (congrArg some (by kernel_rfl))
 f20 := ⟨Tryz.f186.name, by decide, Tryz.func186.trans (congrArg some (by kernel_rfl))⟩
 f21 := ⟨Tryz.f187.name, by decide, Tryz.func187.trans (congrArg some (by kernel_rfl))⟩
 f22 := ⟨Tryz.f188.name, by decide, Tryz.func188.trans (congrArg some (by kernel_rfl))⟩
 f23 := ⟨Tryz.f189.name, by decide, Tryz.func189.trans (congrArg some (by kernel_rfl))⟩
 f24 := ⟨Tryz.f190.name, by decide, Tryz.func190.trans (congrArg some (by kernel_rfl))⟩
 f25 := ⟨Tryz.f191.name, by decide, Tryz.func191.trans (congrArg some (by kernel_rfl))⟩
 f26 := ⟨Tryz.f192.name, by decide, Tryz.func192.trans (congrArg some (by kernel_rfl))⟩
 f27 := ⟨Tryz.f193.name, by decide, Tryz.func193.trans (congrArg some (by kernel_rfl))⟩
 f28 := Tryz.func176.trans (congrArg some (by kernel_rfl))
 f29 := Tryz.func177.trans (congrArg some (by kernel_rfl))
 f46 := ⟨Tryz.f209.name, by decide, Tryz.func209.trans (congrArg some (by kernel_rfl))⟩
 f47 := Tryz.func196.trans (congrArg some (by kernel_rfl))
 f48 := Tryz.func197.trans (congrArg some (by kernel_rfl))
 f49 := ⟨Tryz.f210.name, by decide, Tryz.func210.trans (congrArg some (by kernel_rfl))⟩
 f50 := ⟨Tryz.f211.name, by decide, Tryz.func211.trans (congrArg some (by kernel_rfl))⟩
 f57 := ⟨Tryz.f221.name, by decide, Tryz.func221.trans (congrArg some (by kernel_rfl))⟩
 t0 := Tryz.underlying0
 a0 := Tryz.isAgg0
 z0 := Tryz.sizeOf0
 v0 := Tryz.zeroValue0
 t3 := Tryz.underlying3
 a3 := Tryz.isAgg3
 z3 := Tryz.sizeOf3
 v3 := Tryz.zeroValue3
 t4 := Tryz.underlying4
 a4 := Tryz.isAgg4
 z4 := Tryz.sizeOf4
 v4 := Tryz.zeroValue4
 t5 := Tryz.underlying5
 a5 := Tryz.isAgg5
 z5 := Tryz.sizeOf5
 v5 := Tryz.zeroValue5
 t9 := Tryz.underlying9
 a9 := Tryz.isAgg9
 z9 := Tryz.sizeOf9
 v9 := Tryz.zeroValue9
 t22 := Tryz.underlying219
 a22 := Tryz.isAgg219
 z22 := Tryz.sizeOf219
 v22 := Tryz.zeroValue219
 t25 := Tryz.underlying223
 a25 := Tryz.isAgg223
 z25 := Tryz.sizeOf223
 v25 := Tryz.zeroValue223
 t39 := Tryz.underlying227
 a39 := Tryz.isAgg227
 z39 := Tryz.sizeOf227
 v39 := Tryz.zeroValue227
 t45 := Tryz.underlying244
 a45 := Tryz.isAgg244
 z45 := Tryz.sizeOf244
 v45 := Tryz.zeroValue244
 t46 := Tryz.underlying245
 a46 := Tryz.isAgg245
 z46 := Tryz.sizeOf245
 v46 := Tryz.zeroValue245
 t50 := Tryz.underlying231
 a50 := Tryz.isAgg231
 z50 := Tryz.sizeOf231
 v50 := Tryz.zeroValue231
 t53 := Tryz.underlying251
 a53 := Tryz.isAgg251
 z53 := Tryz.sizeOf251
 v53 := Tryz.zeroValue251
 t55 := Tryz.underlying253
 a55 := Tryz.isAgg253
 z55 := Tryz.sizeOf253
 v55 := Tryz.zeroValue253
 t66 := Tryz.underlying266
 a66 := Tryz.isAgg266
 z66 := Tryz.sizeOf266
 v66 := Tryz.zeroValue266
 t70 := Tryz.underlying270
 a70 := Tryz.isAgg270
 z70 := Tryz.sizeOf270
 v70 := Tryz.zeroValue270
 t76 := Tryz.underlying281
 a76 := Tryz.isAgg281
 z76 := Tryz.sizeOf281
 v76 := Tryz.zeroValue281
 t77 := Tryz.underlying190
 a77 := Tryz.isAgg190
 z77 := Tryz.sizeOf190
 v77 := Tryz.zeroValue190 }
end Go.Proofs
namespace Go.Proofs.YtfdlhbdcejlopaaGreatDoor.B
open Go.RowKit Go.Shelf Go.Lib Go.Sort Go.Proofs.YtfdlhbdcejlopaaGreatDoorW.PrintWords Go.Proofs.YtfdlhbdcejlopaaGreatDoorW.PrintLast Go.Proofs.YtfdlhbdcejlopaaGreatDoorW.PrintMore
set_option linter.unusedVariables false
instance : Inhabited S221 := ⟨z221⟩
def encP (x : S221) : List Value := [.int .i64 x.f0, .int .i64 x.f1]
def cmpP (x y : S221) : Int := partCmp (x.f0, x.f1) (y.f0, y.f1)
def ltP (x y : S221) : Bool := decide (y.f1 < x.f1 ∨ (y.f1 = x.f1 ∧ x.f0 < y.f0))
theorem ltP_of (x y : S221) : ltOf cmpP x y = ltP x y := by
 unfold ltOf cmpP ltP partCmp orI Lib.compareInt
 by_cases h1 : y.f1 < x.f1
 ·simp [h1]
 ·by_cases h2 : x.f1 < y.f1
  ·have h3 : ¬ y.f1 = x.f1 := by omega
   simp [h1, h2, h3]
  ·have h3 : y.f1 = x.f1 := by omega
   by_cases h4 : x.f0 < y.f0
   ·simp [h3, h4]
   ·by_cases h5 : y.f0 < x.f0
    ·have h6 : ¬ x.f0 < y.f0 := h4
     simp [h3, h5, h6]
    ·simp [h3, h4, h5]
theorem swoP : SWO (ltOf cmpP) where
 irrefl x := by rw [ltP_of]; unfold ltP; simp
 trans x y z h1 h2 := by rw [ltP_of] at *; unfold ltP at *; simp only [decide_eq_true_eq] at *; omega
 ntrans x y z h1 h2 := by rw [ltP_of] at *; unfold ltP at *; simp only [decide_eq_false_iff_not] at *; omega
theorem cmpLaysP (blk off size : Nat) (w : World) : CmpLays Tryz.prog 147 #[] encP 2 cmpP blk off size w :=
 fun m os dk _ x y => (partCmp_calls x.f0 x.f1 y.f0 y.f1 _ _ rfl).mono fun e w' h => h
def insP (x : S221) : List S221 → List S221
 | [] => [x]
 | y :: l => if ltP y x then y :: insP x l else x :: y :: l
def isortP : List S221 → List S221
 | [] => []
 | x :: l => insP x (isortP l)
theorem insP_perm (x : S221) : ∀ l, (insP x l).Perm (x :: l)
 | [] => List.Perm.refl _
 | y :: l => by
  unfold insP
  split
  ·exact ((insP_perm x l).cons y).trans (List.Perm.swap x y l)
  ·exact List.Perm.refl _
theorem isortP_perm : ∀ l, (isortP l).Perm l
 | [] => List.Perm.refl _
 | x :: l => (insP_perm x _).trans ((isortP_perm l).cons x)
def leP (x y : S221) : Prop := ltP y x = false
theorem leP_trans {x y z : S221} (h1 : leP x y) (h2 : leP y z) : leP x z := by
 unfold leP ltP at *
 simp only [decide_eq_false_iff_not] at *
 omega
theorem leP_antisymm {x y : S221} (h1 : leP x y) (h2 : leP y x) : x = y := by
 unfold leP ltP at *
 simp only [decide_eq_false_iff_not] at *
 cases x; cases y
 simp only at *
 congr <;> omega
theorem insP_sorted (x : S221) : ∀ l : List S221, l.Pairwise leP → (insP x l).Pairwise leP
 | [], _ => by simp [insP]
 | y :: l, h => by
  rw [List.pairwise_cons] at h
  unfold insP
  by_cases hc : ltP y x = true
  ·rw [if_pos hc, List.pairwise_cons]
   refine ⟨fun z hz => ?_, insP_sorted x l h.2⟩
   rcases List.mem_cons.1 ((insP_perm x l).mem_iff.1 hz) with rfl | hz
   ·unfold leP ltP at *
    simp only [decide_eq_false_iff_not, decide_eq_true_eq] at *
    omega
   ·exact h.1 z hz
  ·rw [if_neg hc, List.pairwise_cons]
   have hxy : leP x y := by unfold leP; simpa using hc
   refine ⟨fun z hz => ?_, List.pairwise_cons.2 h⟩
   rcases List.mem_cons.1 hz with rfl | hz
   ·exact hxy
   ·exact leP_trans hxy (h.1 z hz)
theorem isortP_sorted : ∀ l, (isortP l).Pairwise leP
 | [] => List.Pairwise.nil
 | x :: l => insP_sorted x _ (isortP_sorted l)
theorem isortP_length (xs : List S221) : (isortP xs).length = xs.length := (isortP_perm xs).length_eq
theorem isortP_of {xs ys : List S221} (hp : ys.Perm xs) (hs : ys.Pairwise leP) : ys = isortP xs :=
 List.Perm.eq_of_pairwise (le := leP) (fun a b _ _ h1 h2 => leP_antisymm h1 h2) hs (isortP_sorted xs) (hp.trans (isortP_perm xs).symm)
theorem flat_get (xs : List S221) (t : Nat) (h : t < xs.length * 2) : (flatK encP 2 xs.toArray)[t]! = (encP (xs[t / 2]'(by omega)))[t % 2]'(by simp [encP]; omega) := by
 rw [get_flatK _ _ _ _ (by simpa using h)]
 have h1 : t / 2 < xs.length := by omega
 have h2 : xs.toArray[t / 2]! = xs[t / 2] := by simp [h1]
 rw [h2, getElem!_pos _ _ (by simp [encP]; omega)]
theorem flat_of {xs : List S221} {inner : List Value} (hl : inner.length = xs.length * 2) (h : ∀ j p, xs[j]? = some p → (inner.drop (j * 2)).take 2 = encP p) : inner = (flatK encP 2 xs.toArray).toList := by
 apply List.ext_getElem (by simp [hl])
 intro t h1 h2
 have ht : t < xs.length * 2 := by omega
 have hx := h (t / 2) _ (List.getElem?_eq_getElem (show t / 2 < xs.length by omega))
 have e1 : (flatK encP 2 xs.toArray).toList[t] = (flatK encP 2 xs.toArray)[t]! := by
  rw [Array.getElem_toList, getElem!_pos]
 rw [e1, flat_get xs t ht]
 have e2 : ((inner.drop (t / 2 * 2)).take 2)[t % 2]? = (encP (xs[t / 2]'(by omega)))[t % 2]? := by rw [hx]
 rw [List.getElem?_take_of_lt (by omega), List.getElem?_drop, show t / 2 * 2 + t % 2 = t by omega, List.getElem?_eq_getElem h1, List.getElem?_eq_getElem (by simp [encP]; omega)] at e2
 exact Option.some.inj e2
theorem flat_reps (xs : List S221) (j : Nat) (p : S221) (h : xs[j]? = some p) : ((flatK encP 2 xs.toArray).toList.drop (j * 2)).take 2 = encP p := by
 obtain ⟨hj, hp⟩ := List.getElem?_eq_some_iff.1 h
 apply List.ext_getElem
 ·simp [encP]; omega
 ·intro i h1 h2
  have hi : i < 2 := by simpa [encP] using h2
  have ht : j * 2 + i < xs.length * 2 := by omega
  rw [List.getElem_take, List.getElem_drop, Array.getElem_toList, ← getElem!_pos _ _ (by simpa using ht), flat_get xs _ ht]
  have e1 : (j * 2 + i) / 2 = j := by omega
  have e2 : (j * 2 + i) % 2 = i := by omega
  simp only [e1, e2, hp]
theorem holds_of_blockV {w : World} {g : Nat} {cur : Array Value} {e : TypeId} {d : Array Value} (hb : w.heap[g]? = some (.cells cur e (0, 0))) (ht : cur.toList.take d.size = d.toList) : Holds id w g 0 d := by
 intro j hj
 refine ⟨?_, by simp [World.frozen?, hb]⟩
 have h1 : (cur.toList.take d.size)[j]? = d.toList[j]? := by rw [ht]
 rw [List.getElem?_take_of_lt hj] at h1
 simp only [World.cell?, hb, Nat.zero_add]
 simp only [Option.isSome_none, Bool.false_eq_true, if_false]
 rw [← Array.getElem?_toList, h1]
 simp [hj]
theorem heap_sortedV {w : World} {g n : Nat} {os : Array Obj} {cur : Array Value} {e : TypeId} {fr : Nat × Nat} (d : Array Value) (hb : w.heap[g]? = some (.cells cur e fr)) :
  (grow (putRow id (Sort.ahead w n) g 0 d) os).heap[g]? = some (.cells (putCells id 0 d cur) e fr) := by
 have hg : g < w.heap.size := (Array.getElem?_eq_some_iff.1 hb).1
 rw [heap_grow_old _ _ (by simpa using hg)]
 simp [putRow, mapBlock, Sort.ahead, Array.getElem?_modify, hb, onCells]
theorem grownBy_sortedV {w : World} {g n : Nat} {os : Array Obj} (d : Array Value) : w.grownBy (grow (putRow id (Sort.ahead w n) g 0 d) os) (some g) := by
 refine ⟨rfl, rfl, rfl, by simp, fun k hk hne => ?_⟩
 rw [heap_grow_old _ _ (by simpa using hk)]
 have : g ≠ k := fun e => hne (by rw [e])
 simp [putRow, mapBlock, Sort.ahead, Array.getElem?_modify, this]
theorem take_putCellsV (cur d : Array Value) (h : d.size ≤ cur.size) : (putCells id 0 d cur).toList.take d.size = d.toList := by
 apply List.ext_getElem?
 intro j
 by_cases hj : j < d.size
 ·rw [List.getElem?_take_of_lt hj, Array.getElem?_toList]
  simp [putCells, hj, show j < cur.size by omega]
 ·rw [List.getElem?_take_eq_none (by omega), List.getElem?_eq_none (by simp; omega)]
theorem sortParts_R {w0 w : World} {base : Nat} {ok : Nat → Prop} {v : Value} {xs : List S221} (HO : Kd.R k221 221 w base ok v xs) (HB : Go.RowKit.Below base w0 w) (hbs : base ≤ w.heap.size) (hl : xs.length < 17592186044416) (hne : xs ≠ []) :
  Calls Tryz.prog 146 #[v, .func (.func 147) #[] #[]] w fun e w' => e = .returned (.tuple #[]) ∧ Kd.R k221 221 w' base ok v (isortP xs) ∧ Go.RowKit.Below base w0 w' ∧ w.grownBy w' v.ownBlock := by
 obtain ⟨hok, inner, ho, hr⟩ := HO
 rcases ho.2 with ⟨_, h0⟩ | ⟨g, cap, cur, rfl, hbase, hb, h1, h2, h3, h4⟩
 ·exact absurd (List.length_eq_zero_iff.1 h0) hne
 have hin : inner = (flatK encP 2 xs.toArray).toList := flat_of hr.1 (fun j p hj => k221_openM (hr.2 j p hj))
 have eg : ∀ args w, (callFunc 147 args).run Tryz.prog w = .ok (.enter 147 args) w := enters_of Tryz.func147 (by kernel_rfl) rfl
 have hsz : (flatK encP 2 xs.toArray).size = xs.length * 2 := by simp
 have hH : HoldsK encP 2 w g 0 xs.toArray := holds_of_blockV hb (by rw [hsz, ← hin]; exact h4)
 have hcon := AnyQ.slices_SortFunc Tryz.sortPart 2 Tryz.isAgg221 Tryz.sizeOf221 encP (fun _ => rfl) (fun x v hv => by simp [encP] at hv; rcases hv with rfl | rfl <;> rfl) cmpP swoP 147 #[] g 0 cap xs.toArray w eg (cmpLaysP g 0 _ w) hH (Array.getElem?_eq_some_iff.1 hb).1 (by simp; omega)
 change Calls Tryz.prog 146 _ _ _ at hcon
 refine hcon.mono ?_
 rintro e w' ⟨rfl, d', n, os, ⟨hs', _, hp'⟩, hso, rfl⟩
 have hd : d'.toList = isortP xs := by
  refine isortP_of ?_ ?_
  ·have := hp'
   simp only [List.size_toArray] at this hs'
   rw [Array.extract_eq_self_of_le (by omega), Array.extract_eq_self_of_le (by simp)] at this
   simpa using this
  ·rw [List.pairwise_iff_getElem]
   intro i j hi hj hij
   have h5 := hso i j (Nat.zero_le _) hij (by simp only [List.size_toArray] at hs' ⊢; simp at hj; omega)
   rw [ltP_of] at h5
   simp only [Array.length_toList] at hi hj
   rw [getElem!_pos d' i hi, getElem!_pos d' j hj] at h5
   simpa [leP] using h5
 have hd2 : d' = (isortP xs).toArray := by rw [← hd]
 have hlen := isortP_length xs
 have hk2 : k221.sz = 2 := rfl
 rw [hd2]
 have hg := grownBy_sortedV (w := w) (g := g) (n := n) (os := os) (flatK encP 2 (isortP xs).toArray)
 have hsz2 : (flatK encP 2 (isortP xs).toArray).size = xs.length * 2 := by simp [hlen]
 refine ⟨rfl, ⟨hok, (flatK encP 2 (isortP xs).toArray).toList, ⟨by simp [hlen, hk2], .inr ⟨g, cap, _, by simp [hlen], hbase, heap_sortedV _ hb, by omega, h2, by simp [putCells, h3], ?_⟩⟩, ⟨by simp [hlen, hk2], fun j p hj => ?_⟩⟩, HB.grown hg hbs (fun k e => by cases e; exact hbase), hg⟩
 ·rw [hlen, hk2, ← hsz2]
  exact take_putCellsV cur _ (by rw [hsz2, h3]; exact Nat.mul_le_mul_right _ h1)
 ·rw [show k221.sz = 2 from rfl, flat_reps _ j p hj]
  exact k221_mkM _ _ _ p
def sortedParts.f (xs : List S221) (u : Unit) : Option (List S221) := if xs.length < 17592186044416 ∧ xs ≠ [] then some (isortP xs) else none
end Go.Proofs.YtfdlhbdcejlopaaGreatDoor.B
namespace Go.Proofs.YtfdlhbdcejlopaaGreatDoor.B
open Go.RowKit Go.Proofs.YtfdlhbdcejlopaaGreatDoorW.PrintWords Go.Proofs.YtfdlhbdcejlopaaGreatDoorW.PrintLast Go.Proofs.YtfdlhbdcejlopaaGreatDoorW.PrintMore
theorem numbers_spec {l t : List Int} (h : nacellelaw08_numbers.f l = some t) : l.length < 17592186044416 ∧ t = l := by
 unfold nacellelaw08_numbers.f at h
 simp only [Option.bind_some, List.length_nil, Nat.zero_add, List.nil_append] at h
 split at h
 ·exact ⟨by assumption, (Option.some.inj h).symm⟩
 ·cases h
theorem copy_eq (l : List Int) : l.take (min l.length (List.replicate ((l.length : Int)).toNat (0 : Int)).length) ++ (List.replicate ((l.length : Int)).toNat (0 : Int)).drop (min l.length (List.replicate ((l.length : Int)).toNat (0 : Int)).length) = l := by
 simp
theorem info3sz : (Tryz.prog.info? 3).map (·.size) = some 1 := by kernel_rfl
theorem sorted_spec {xs t : List S221} (h : sortedParts.f xs () = some t) : xs.length < 17592186044416 ∧ xs ≠ [] ∧ isortP xs = t ∧ xs.length = t.length := by
 unfold sortedParts.f at h
 split at h
 ·rename_i hc
  have := Option.some.inj h
  exact ⟨hc.1, hc.2, this, by rw [← this, isortP_length]⟩
 ·cases h
end Go.Proofs.YtfdlhbdcejlopaaGreatDoor.B
namespace Go.Proofs.YtfdlhbdcejlopaaGreatDoor.B
open Go.RowKit Go.Proofs.YtfdlhbdcejlopaaGreatDoorW.PrintWords Go.Proofs.YtfdlhbdcejlopaaGreatDoorW.PrintLast Go.Proofs.YtfdlhbdcejlopaaGreatDoorW.PrintMore
attribute [local go_sem] max2_int min2_int max_two min_two
set_option linter.unusedVariables false
set_option linter.unusedSimpArgs false
/-! ### market_sum: function 104 -/
def market_sum.l0 : Nat → Int → List Int → Int → Int → Option (Int)
 | 0, _, _, _, _ => none
 | k + 1, x3, x6, x7, x8 => if x8 < x7 then (if 0 ≤ x8 then (if x8 < (x6.length : Int) then (market_sum.l0 k (wrap64 (x3 + (rd x6 x8))) x6 x7 (wrap64 (x8 + 1))) else (none)) else (none)) else (some x3)
def market_sum.f (k : Nat) (l0 : List Int) : Option (Int) := market_sum.l0 k 0 l0 (l0.length : Int) 0
set_option maxHeartbeats 8000000 in
set_option maxRecDepth 100000 in
theorem market_sum.calls (k : Nat) (A0 : Option Addr) (c0 : Nat) (l0 : List Int) (r : Int) (w : World) (hr0 : Kd.C (Kd.int .i64) w A0 l0.length l0) (hc0 : l0.length ≤ c0) (h : market_sum.f k l0 = some r) :
  Calls Tryz.prog 104 #[.slice A0 l0.length c0] w fun e w' => e = .returned (.int .i64 r) ∧ Drawn0 w w' := by
 have HR0 := Aside0.mk hr0
 have HC0 := Aside0.mk hc0
 clear hr0 hc0
 have H : (market_sum.l0 k 0 l0 (l0.length : Int) 0) = some r := h
 clear h
 have H' := Aside0.mk H
 clear H
 go_enter Tryz.func104, Tryz.ntmps104
 go_wp2
 go_loopg [3, 8] k (fun kq v3 v8 w' => ∃ (x3_1 : Int) (x8_1 : Int), v3 = .int .i64 x3_1 ∧ v8 = .int .i64 x8_1 ∧ Aside0 (market_sum.l0 kq x3_1 l0 (l0.length : Int) x8_1 = some r) ∧ Aside0 (kq ≤ k) ∧ Drawn0 w w')
 case atStart => exact ⟨(0), (0), (by first | rfl | (simp; done) | (simp [*]; done)), (by first | rfl | (simp; done) | (simp [*]; done)), H', ⟨Nat.le_refl _⟩, by repeat (first | exact Drawn0.refl _ | apply Drawn0.step)⟩
 case round =>
  clear H'
  try clear c1
  obtain ⟨x3_1, x8_1, rfl, rfl, HA, HK1, ⟨m1, rfl⟩⟩ := hrel
  cases gk with
  | zero => exact absurd HA.out (by simp [market_sum.l0])
  | succ k1 =>
   have H := HA.out
   clear HA
   simp only [market_sum.l0] at H
   by_cases c2 : x8_1 < (l0.length : Int)
   ·rw [if_pos c2] at H
    have c2b0 : decide (x8_1 < (l0.length : Int)) = true := decide_eq_true c2
    clear c2
    by_cases c3 : 0 ≤ x8_1
    ·rw [if_pos c3] at H
     have c3b0 : decide (0 ≤ x8_1) = true := decide_eq_true c3
     clear c3
     by_cases c4 : x8_1 < (l0.length : Int)
     ·rw [if_pos c4] at H
      have c4b0 : decide (x8_1 < (l0.length : Int)) = true := decide_eq_true c4
      clear c4
      have H' := Aside0.mk H
      clear H
      have p101 : 0 ≤ (x8_1 : Int) := of_decide_eq_true (by first | (with_reducible assumption) | assumption)
      have q101 : x8_1 < (l0.length : Int) := of_decide_eq_true (by first | (with_reducible assumption) | assumption)
      obtain ⟨ad101, e101, hx101_0⟩ := Kd.at_int HR0.out x8_1 p101 q101
      cases e101
      replace p101 := eq_true p101
      replace q101 := eq_true q101
      go_wp2
      go_roundg k1
      case measure => have := HK1.out; omega
      case rel => exact ⟨(wrap64 (x3_1 + (rd l0 x8_1))), (wrap64 (x8_1 + 1)), (by first | rfl | (simp; done) | (simp [*]; done)), (by first | rfl | (simp; done) | (simp [*]; done)), H', ⟨by have := HK1.out; omega⟩, by repeat (first | exact Drawn0.refl _ | apply Drawn0.step)⟩
     ·rw [if_neg c4] at H
      exact absurd H (by simp)
    ·rw [if_neg c3] at H
     exact absurd H (by simp)
   ·rw [if_neg c2] at H
    have c2b0 : decide (x8_1 < (l0.length : Int)) = false := decide_eq_false c2
    clear c2
    obtain rfl := Option.some.inj H
    go_wp2
    go_ret
    exact ⟨by first | rfl | (simp; done) | (simp [*]; done), by repeat (first | exact Drawn0.refl _ | apply Drawn0.step)⟩
/-! ### market_shared: function 102 -/
mutual
def market_shared.l0 : Nat → Int → List Int → Int → List (S221) → List Int → Int → Int → Option (List Int)
 | 0, _, _, _, _, _, _, _ => none
 | k + 1, x1, x5, x6, x7, x24, x25, x26 => if x26 < x25 then (if 0 ≤ x26 then (if x26 < (x24.length : Int) then (if x6 = 0 then (none) else (if x26 < (x5.length : Int) then (if x7.length < 8796093022208 then (market_shared.l0 k x1 (x5.set (x26 : Int).toNat (wrap64 (Int.tdiv (wrap64 ((rd x24 x26) * x1)) x6))) x6 (x7 ++ [(⟨x26, Int.tmod (wrap64 ((rd x24 x26) * x1)) x6⟩ : S221)]) x24 x25 (wrap64 (x26 + 1))) else (none)) else (none))) else (none)) else (none)) else ((sortedParts.f x7 ()).bind fun t110 => ((market_sum.f k x5).bind fun t113 => (if 0 ≤ (wrap64 (x1 - t113)) then (if (wrap64 (x1 - t113)) ≤ (t110.length : Int) then ((some (t110.take ((wrap64 (x1 - t113)) : Int).toNat : List (S221))).bind fun y114 => (market_shared.l1 k x5 y114 (y114.length : Int) 0)) else (none)) else (none))))
def market_shared.l1 : Nat → List Int → List (S221) → Int → Int → Option (List Int)
 | 0, _, _, _, _ => none
 | k + 1, x5, x57, x58, x59 => if x59 < x58 then (if 0 ≤ x59 then (if x59 < (x57.length : Int) then ((idI.f ((rd_T221 x57 x59).f0)).bind fun t119 => (if 0 ≤ t119 then (if t119 < (x5.length : Int) then (market_shared.l1 k (x5.set (t119 : Int).toNat (wrap64 ((rd x5 t119) + 1))) x57 x58 (wrap64 (x59 + 1))) else (none)) else (none))) else (none)) else (none)) else (some x5)
end
def market_shared.f (k : Nat) (l0 : List Int) (a1 : Int) : Option (List Int) := (nacellelaw08_numbers.f l0).bind fun t101 => ((market_sum.f k l0).bind fun t104 => (if t104 ≤ a1 then (some t101) else (market_shared.l0 k a1 t101 t104 ([] : List (S221)) l0 (l0.length : Int) 0)))
set_option maxHeartbeats 8000000 in
set_option maxRecDepth 100000 in
theorem market_shared.calls (k : Nat) (A0 : Option Addr) (c0 : Nat) (l0 : List Int) (a1 : Int) (r : List Int) (w : World) (hr0 : Kd.C (Kd.int .i64) w A0 l0.length l0) (hc0 : l0.length ≤ c0) (h : market_shared.f k l0 a1 = some r) :
  Calls Tryz.prog 102 #[.slice A0 l0.length c0, .int .i64 a1] w fun e w' => ∃ v0_ : Value, e = .returned (v0_) ∧ Kd.R (Kd.int .i64) 3 w' w.heap.size (fun _ => True) v0_ r ∧ Below w.heap.size w w' := by
 have hu221 := Tryz.underlying221
 have HR0 := Aside0.mk hr0
 have HC0 := Aside0.mk hc0
 clear hr0 hc0
 have HB := Aside0.mk (Below.refl w.heap.size w)
 have H : ((nacellelaw08_numbers.f l0).bind fun t101 => ((market_sum.f k l0).bind fun t104 => (if t104 ≤ a1 then (some t101) else (market_shared.l0 k a1 t101 t104 ([] : List (S221)) l0 (l0.length : Int) 0)))) = some r := h
 clear h
 replace H := Option.bind_eq_some_iff.mp H
 obtain ⟨t101, A30, H⟩ := H
 replace H : ((market_sum.f k l0).bind fun t104 => (if t104 ≤ a1 then (some t101) else (market_shared.l0 k a1 t101 t104 ([] : List (S221)) l0 (l0.length : Int) 0))) = some r := H
 have A3 := Aside0.mk A30
 clear A30
 replace H := Option.bind_eq_some_iff.mp H
 obtain ⟨t104, A40, H⟩ := H
 replace H : (if t104 ≤ a1 then (some t101) else (market_shared.l0 k a1 t101 t104 ([] : List (S221)) l0 (l0.length : Int) 0)) = some r := H
 have A4 := Aside0.mk A40
 clear A40
 by_cases c5 : t104 ≤ a1
 ·rw [if_pos c5] at H
  have c5b0 : decide (t104 ≤ a1) = true := decide_eq_true c5
  clear c5
  obtain rfl := Option.some.inj H
  go_enter Tryz.func102, Tryz.ntmps102
  go_wp2_with (first | ((with_reducible refine gate_dst (N := 14) rfl ?_); refine Kd.R_make (Kd.int .i64) _ 3 rfl (N := 14) rfl 52 _ _ rfl (l0.length : Int) rfl rfl Tryz.underlying52 (.int .i64 0) 8 info3 rfl (by decide) (by omega) 0 (ok := fun _ => True) (okp := fun _ => True) rfl (fun _ hk => hk) trivial (by omega) (by have := (numbers_spec A3.out).1; omega) (Below.refl _ _) (Nat.le_refl _) ?_; intro v102 w6 ho10 hb hg_ hnew_; clear hg_ hnew_; have HOZ := Aside0.mk (Kd.R_lower ho10 (below_size (ws_ HB.out))); have n1_ := Aside0.mk (below_step (ws_ HB.out) hb); clear HB; have HB := n1_; clear n1_; clear hb ho10) | ((with_reducible refine gate_builtin (b := .copy) (xs := #[.tmp 15, .tmp 16]) rfl ?_); refine Kd.R_copy (enc := Value.int .i64) (h1 := fun _ => rfl) (0 : Int) (w0 := w) w.heap.size rfl (.tmp 15) (.tmp 16) 52 52 3 rfl Tryz.underlying52 info3sz v102 (List.replicate ((l0.length : Int)).toNat (0 : Int)) l0 _ l0.length c0 (fun _ => True) rfl rfl ?aO ?aR ?aB ?aS ?_; (case aO => exact (rs_ HOZ.out)); (case aR => exact Kd.C_below HR0.out (ws_ HB.out)); (case aB => exact (ws_ HB.out)); (case aS => exact below_size (ws_ HB.out)); intro w6c ho hb hg; rw [copy_eq, ← (numbers_spec A3.out).2] at ho; have n0_ := Aside0.mk ho; have n1_ := Aside0.mk hb; clear HB HOZ; have HO103 := n0_; have HB := n1_; clear n0_ n1_; clear ho hb hg) | ((with_reducible refine gate_callee (f := 104) rfl ?_); refine gl_ (some 19) Tryz.func104 #[.slice A0 l0.length c0] ?_; (with_reducible refine (market_sum.calls k _ _ l0 t104 _ ?side1 ?side2 A4.out).mono ?_); (case side1 => exact cs_ (Kd.C_below HR0.out HB.out)); (case side2 => exact HC0.out); rintro e w' ⟨rfl, ⟨nd, rfl⟩⟩; refine ⟨_, rfl, ?_⟩))
  go_ret
  exact ⟨_, by first | rfl | (simp [errW_none, errW_some] <;> rfl) | (simp [*, errW_none, errW_some] <;> rfl), by (with_reducible repeat (first | apply Kd.R_alloc | apply Kd.R_drewN | apply Kd.R_drew)); exact HO103.out, by repeat (first | (with_reducible first | exact HB.out | apply below_alloc | apply pw_below_drewN | apply below_drew1) | exact HB.out)⟩
 ·rw [if_neg c5] at H
  have c5b0 : decide (t104 ≤ a1) = false := decide_eq_false c5
  clear c5
  have H' := Aside0.mk H
  clear H
  go_enter Tryz.func102, Tryz.ntmps102
  go_wp2_with (first | ((with_reducible refine gate_dst (N := 14) rfl ?_); refine Kd.R_make (Kd.int .i64) _ 3 rfl (N := 14) rfl 52 _ _ rfl (l0.length : Int) rfl rfl Tryz.underlying52 (.int .i64 0) 8 info3 rfl (by decide) (by omega) 0 (ok := fun _ => True) (okp := fun _ => True) rfl (fun _ hk => hk) trivial (by omega) (by have := (numbers_spec A3.out).1; omega) (Below.refl _ _) (Nat.le_refl _) ?_; intro v102 w7 ho10 hb hg_ hnew_; clear hg_ hnew_; have HOZ := Aside0.mk (Kd.R_lower ho10 (below_size (ws_ HB.out))); have n1_ := Aside0.mk (below_step (ws_ HB.out) hb); clear HB; have HB := n1_; clear n1_; clear hb ho10) | ((with_reducible refine gate_builtin (b := .copy) (xs := #[.tmp 15, .tmp 16]) rfl ?_); refine Kd.R_copy (enc := Value.int .i64) (h1 := fun _ => rfl) (0 : Int) (w0 := w) w.heap.size rfl (.tmp 15) (.tmp 16) 52 52 3 rfl Tryz.underlying52 info3sz v102 (List.replicate ((l0.length : Int)).toNat (0 : Int)) l0 _ l0.length c0 (fun _ => True) rfl rfl ?aO ?aR ?aB ?aS ?_; (case aO => exact (rs_ HOZ.out)); (case aR => exact Kd.C_below HR0.out (ws_ HB.out)); (case aB => exact (ws_ HB.out)); (case aS => exact below_size (ws_ HB.out)); intro w7c ho hb hg; rw [copy_eq, ← (numbers_spec A3.out).2] at ho; have n0_ := Aside0.mk ho; have n1_ := Aside0.mk hb; clear HB HOZ; have HO103 := n0_; have HB := n1_; clear n0_ n1_; clear ho hb hg) | ((with_reducible refine gate_callee (f := 104) rfl ?_); refine gl_ (some 19) Tryz.func104 #[.slice A0 l0.length c0] ?_; (with_reducible refine (market_sum.calls k _ _ l0 t104 _ ?side1 ?side2 A4.out).mono ?_); (case side1 => exact cs_ (Kd.C_below HR0.out HB.out)); (case side2 => exact HC0.out); rintro e w' ⟨rfl, ⟨nd, rfl⟩⟩; refine ⟨_, rfl, ?_⟩))
  go_loopg [7, 26] k (fun kq v7 v26 w' => ∃ (x5_1 : List Int) (x7_1 : List (S221)) (x26_1 : Int), v26 = .int .i64 x26_1 ∧ Aside0 (market_shared.l0 kq a1 x5_1 t104 x7_1 l0 (l0.length : Int) x26_1 = some r) ∧ Aside0 (kq ≤ k) ∧ Aside0 (Kd.R (Kd.int .i64) 3 w' w.heap.size (fun _ => True) v102 x5_1) ∧ Aside0 (Kd.R k221 221 w' w.heap.size (fun _ => True) v7 x7_1) ∧ Aside0 (Below w.heap.size w w'))
  case atStart => exact ⟨(t101), (([] : List (S221))), (0), (by first | rfl | (simp; done) | (simp [*]; done)), H', ⟨Nat.le_refl _⟩, ⟨by (with_reducible repeat (first | apply Kd.R_alloc | apply Kd.R_drewN | apply Kd.R_drew)); exact HO103.out⟩, ⟨by first | exact Kd.R_nil _ _ _ _ _ | exact Kd.N_nil _ _ _ _ _ | exact Kd.V_nil _ _ _ _ _ | exact Kd.Q_nil _ _ _ _ _ | exact Kd.S_nil _ _ _ _ _⟩, ⟨by repeat (first | (with_reducible first | exact HB.out | apply below_alloc | apply pw_below_drewN | apply below_drew1) | exact HB.out)⟩⟩
  case round =>
   clear H'
   try clear c1
   try clear p2
   try clear c3
   try clear c5
   try clear c5b0
   obtain ⟨x5_1, x7_1, x26_1, rfl, HA, HK1, HO_5, HO_7, HB⟩ := hrel
   cases gk with
   | zero => exact absurd HA.out (by simp [market_shared.l0])
   | succ k1 =>
    have H := HA.out
    clear HA
    simp only [market_shared.l0] at H
    by_cases c8 : x26_1 < (l0.length : Int)
    ·rw [if_pos c8] at H
     have c8b0 : decide (x26_1 < (l0.length : Int)) = true := decide_eq_true c8
     clear c8
     by_cases c9 : 0 ≤ x26_1
     ·rw [if_pos c9] at H
      have c9b0 : decide (0 ≤ x26_1) = true := decide_eq_true c9
      clear c9
      by_cases c10 : x26_1 < (l0.length : Int)
      ·rw [if_pos c10] at H
       have c10b0 : decide (x26_1 < (l0.length : Int)) = true := decide_eq_true c10
       clear c10
       by_cases c11 : t104 = 0
       ·rw [if_pos c11] at H
        exact absurd H (by simp)
       ·rw [if_neg c11] at H
        have c11b0 : (t104 == 0) = false := beq_eq_false_iff_ne.mpr c11
        have c11b1 : (t104 != 0) = true := bne_iff_ne.mpr c11
        by_cases c12 : x26_1 < (x5_1.length : Int)
        ·rw [if_pos c12] at H
         have c12b0 : decide (x26_1 < (x5_1.length : Int)) = true := decide_eq_true c12
         clear c12
         obtain ⟨y106, hy106⟩ : ∃ y_ : List Int, y_ = (x5_1.set (x26_1 : Int).toNat (wrap64 (Int.tdiv (wrap64 ((rd l0 x26_1) * a1)) t104))) := ⟨_, rfl⟩
         replace H : (if x7_1.length < 8796093022208 then (market_shared.l0 k1 a1 y106 t104 (x7_1 ++ [(⟨x26_1, Int.tmod (wrap64 ((rd l0 x26_1) * a1)) t104⟩ : S221)]) l0 (l0.length : Int) (wrap64 (x26_1 + 1))) else (none)) = some r := by first | (rw [hy106]; with_reducible exact H) | (have H2_ := (Option.bind_some _ _).symm.trans H; rw [hy106]; with_reducible exact H2_) | (have H2_ := (Option.bind_some _ _).symm.trans H; with_reducible exact H2_) | with_reducible exact H | (rw [hy106]; exact H) | exact H
         have Ny106 := Aside0.mk hy106
         clear hy106
         by_cases c14 : x7_1.length < 8796093022208
         ·rw [if_pos c14] at H
          have LMc14 := Aside0.mk c14
          clear c14
          obtain ⟨y107, hy107⟩ : ∃ y_ : List (S221), y_ = (x7_1 ++ [(⟨x26_1, Int.tmod (wrap64 ((rd l0 x26_1) * a1)) t104⟩ : S221)]) := ⟨_, rfl⟩
          replace H : (market_shared.l0 k1 a1 y106 t104 y107 l0 (l0.length : Int) (wrap64 (x26_1 + 1))) = some r := by first | (rw [hy107]; with_reducible exact H) | (have H2_ := (Option.bind_some _ _).symm.trans H; rw [hy107]; with_reducible exact H2_) | (have H2_ := (Option.bind_some _ _).symm.trans H; with_reducible exact H2_) | with_reducible exact H | (rw [hy107]; exact H) | exact H
          have Ny107 := Aside0.mk hy107
          clear hy107
          have H' := Aside0.mk H
          clear H
          have p105 : 0 ≤ (x26_1 : Int) := of_decide_eq_true (by first | (with_reducible assumption) | assumption)
          have q105 : x26_1 < (l0.length : Int) := of_decide_eq_true (by first | (with_reducible assumption) | assumption)
          obtain ⟨ad105, e105, hx105_0⟩ := Kd.at_int HR0.out x26_1 p105 q105
          cases e105
          replace hx105_0 := (HB.out.cell (World.block_lt_of_cell? w _ hx105_0)).trans hx105_0
          replace p105 := eq_true p105
          replace q105 := eq_true q105
          have p13 : 0 ≤ (x26_1 : Int) := of_decide_eq_true (by first | (with_reducible assumption) | assumption)
          have q13 : (x26_1 : Int) < ((x5_1.length : Int) : Int) := of_decide_eq_true (by first | (with_reducible assumption) | assumption)
          obtain ⟨go13, co13, eo13, gb13, gl13, cl13, HG13⟩ := Kd.R_form HO_5.out (by omega)
          (first | cases eo13 | (injection eo13 with ea_ en_ ec_; (first | subst ea_ | (injection ea_ with ea_; subst ea_)); subst ec_; clear en_))
          have GB13 := Aside0.mk gb13
          have GG13 := Aside0.mk HG13
          clear gb13 gl13 HG13
          obtain ⟨hx13_0, hf13_0⟩ := Kd.R_celln 0 HO_5.out (x26_1 : Int) p13 q13
          replace p13 := eq_true p13
          replace q13 := eq_true q13
          have HP15 := Kd.R_putg HO_5.out (x26_1 : Int) (wrap64 (Int.tdiv (wrap64 ((rd l0 x26_1) * a1)) t104))
          go_wp2_with (first | ((with_reducible refine gate_store (t := 3) (p := 38) rfl ?_); refine store_event (t := 3) (p := 38) (v := ?vo_w16) (w1 := (wr.setCell ⟨go13, (x26_1 : Int).toNat, none⟩ (.int .i64 (wrap64 (Int.tdiv (wrap64 ((rd l0 x26_1) * a1)) t104))))) ?hg ?ho ?hn ?hr ?_; (case ho => rfl); (case hg => rfl); (case hn => rfl); (case hr => first | (go_simp; done) | (go_simp; rfl)); intro w16 hw; have hg : wr.grownBy w16 (some go13) := (by rw [hw]; exact HP15.2); have hp_ : Kd.R (Kd.int .i64) 3 w16 w.heap.size (fun _ => True) (.slice (some ⟨go13, 0, none⟩) x5_1.length co13) y106 := (by rw [hw, Ny106.out]; exact HP15.1); clear HP15; have n0_ := Aside0.mk (hp_); have n1_ := Aside0.mk (Kd.R_over' (v := (.slice (some ⟨go13, 0, none⟩) x5_1.length co13)) (rs_ HO_7.out) (Kd.R_typed HO_5.out) (by decide) hg); have n2_ := Aside0.mk ((by rw [hw]; exact below_set (HB.out) GB13.out : Below w.heap.size w w16)); clear HO_5; clear HO_7; clear HB; have HO_5 := n0_; have HO_7 := n1_; have HB := n2_; clear n0_ n1_ n2_; clear hg hw hp_) | ((with_reducible refine gate_builtin (b := .append) (xs := #[.tmp 39, .tmp 47]) rfl ?_); at_builtin; refine Kd.R_append k221 (w0 := w) w.heap.size rfl (.tmp 39) (.tmp 47) 219 221 (.agg #[(.int .i64 0), (.int .i64 0)]) 16 rfl Tryz.underlying219 info221 rfl (by decide) (by omega) u7 x7_1 (⟨x26_1, Int.tmod (wrap64 ((rd l0 x26_1) * a1)) t104⟩ : S221) [.int .i64 x26_1, .int .i64 (Int.tmod (wrap64 ((rd l0 x26_1) * a1)) t104)] (fun _ => True) (fun _ => False) rfl rfl ?aP (fun _ hk => hk.elim) ?aF ?aO ?aB ?aS ?aL ?_; (case aP => exact k221_mkM _ _ _ (⟨x26_1, Int.tmod (wrap64 ((rd l0 x26_1) * a1)) t104⟩ : S221)); (case aB => exact (ws_ HB.out)); (case aF => exact (fun _ _ => trivial)); (case aO => exact (rs_ HO_7.out)); (case aS => exact (below_size (ws_ HB.out))); (case aL => have := LMc14.out; omega); intro v108 w17 ho hb hg hat; rw [← Ny107.out] at ho; have n0_ := Aside0.mk (Kd.R_over' (rs_ HO_5.out) (Kd.R_typed (rs_ HO_7.out)) (by decide) hg); have n1_ := Aside0.mk (hb); have n2_ := Aside0.mk (ho); clear HO_5; clear HB; clear HO_7; have HO_5 := n0_; have HB := n1_; have HO109 := n2_; clear n0_ n1_ n2_; clear ho hb hg hat))
          go_roundg k1
          case measure => have := HK1.out; omega
          case rel => exact ⟨(y106), (y107), (wrap64 (x26_1 + 1)), (by first | rfl | (simp; done) | (simp [*]; done)), H', ⟨by have := HK1.out; omega⟩, ⟨by (with_reducible repeat (first | apply Kd.R_alloc | apply Kd.R_drewN | apply Kd.R_drew)); exact HO_5.out⟩, ⟨by (with_reducible repeat (first | apply Kd.R_alloc | apply Kd.R_drewN | apply Kd.R_drew)); exact HO109.out⟩, ⟨by repeat (first | (with_reducible first | exact HB.out | apply below_alloc | apply pw_below_drewN | apply below_drew1) | exact HB.out)⟩⟩
         ·rw [if_neg c14] at H
          exact absurd H (by simp)
        ·rw [if_neg c12] at H
         exact absurd H (by simp)
      ·rw [if_neg c10] at H
       exact absurd H (by simp)
     ·rw [if_neg c9] at H
      exact absurd H (by simp)
    ·rw [if_neg c8] at H
     have c8b0 : decide (x26_1 < (l0.length : Int)) = false := decide_eq_false c8
     clear c8
     replace H := Option.bind_eq_some_iff.mp H
     obtain ⟨t110, A180, H⟩ := H
     replace H : ((market_sum.f k1 x5_1).bind fun t113 => (if 0 ≤ (wrap64 (a1 - t113)) then (if (wrap64 (a1 - t113)) ≤ (t110.length : Int) then ((some (t110.take ((wrap64 (a1 - t113)) : Int).toNat : List (S221))).bind fun y114 => (market_shared.l1 k1 x5_1 y114 (y114.length : Int) 0)) else (none)) else (none))) = some r := H
     have A18 := Aside0.mk A180
     clear A180
     replace H := Option.bind_eq_some_iff.mp H
     obtain ⟨t113, A190, H⟩ := H
     replace H : (if 0 ≤ (wrap64 (a1 - t113)) then (if (wrap64 (a1 - t113)) ≤ (t110.length : Int) then ((some (t110.take ((wrap64 (a1 - t113)) : Int).toNat : List (S221))).bind fun y114 => (market_shared.l1 k1 x5_1 y114 (y114.length : Int) 0)) else (none)) else (none)) = some r := H
     have A19 := Aside0.mk A190
     clear A190
     obtain ⟨ji20, hji20⟩ : ∃ j_ : Int, (wrap64 (a1 - t113)) = j_ := ⟨_, rfl⟩
     replace H : (if 0 ≤ (ji20) then (if (ji20) ≤ (t110.length : Int) then ((some (t110.take ((ji20) : Int).toNat : List (S221))).bind fun y114 => (market_shared.l1 k1 x5_1 y114 (y114.length : Int) 0)) else (none)) else (none)) = some r := by first | (rw [hji20] at H; exact H) | (simp only [hji20] at H ⊢; exact H)
     (try rw [hji20] at A18)
     (try rw [hji20] at A19)
     have hji20w : (IntKind.i64.wrap (a1 - t113)) = ji20 := (i64_w _).trans hji20
     by_cases c21 : 0 ≤ (ji20)
     ·rw [if_pos c21] at H
      have c21b0 := eq_true c21
      have c21b1 : decide (0 ≤ (ji20)) = true := decide_eq_true c21
      clear c21
      by_cases c22 : (ji20) ≤ (t110.length : Int)
      ·rw [if_pos c22] at H
       have c22b0 := eq_true c22
       have c22b1 : decide ((ji20) ≤ (t110.length : Int)) = true := decide_eq_true c22
       clear c22
       obtain ⟨y114, hy114⟩ : ∃ y_ : List (S221), y_ = (t110.take ((ji20) : Int).toNat) := ⟨_, rfl⟩
       replace H : (market_shared.l1 k1 x5_1 y114 (y114.length : Int) 0) = some r := by first | (rw [hy114]; with_reducible exact H) | (have H2_ := (Option.bind_some _ _).symm.trans H; rw [hy114]; with_reducible exact H2_) | (have H2_ := (Option.bind_some _ _).symm.trans H; with_reducible exact H2_) | with_reducible exact H | (rw [hy114]; exact H) | exact H
       have Ny114 := Aside0.mk hy114
       clear hy114
       have H' := Aside0.mk H
       clear H
       obtain ⟨Ao23, co23, eo23⟩ := Kd.R_slice HO_7.out
       subst eo23
       go_wp2_with (first | ((with_reducible refine gate_callee (f := 146) rfl ?_); refine gl_ (some 51) Tryz.func146 #[.slice Ao23 x7_1.length co23, .func (.func 147) #[] #[]] ?_; refine (sortParts_R (rs_ HO_7.out) (ws_ HB.out) (below_size (ws_ HB.out)) (sorted_spec A18.out).1 (sorted_spec A18.out).2.1).mono ?_; rintro e w24 ⟨rfl, ho0, hb, hg⟩; refine ⟨_, rfl, ?_⟩; have n0_ := Aside0.mk (Kd.R_over' (rs_ HO_5.out) (Kd.R_typed (rs_ HO_7.out)) (by decide) hg); rw [(sorted_spec A18.out).2.2.1] at ho0; rw [(sorted_spec A18.out).2.2.2] at ho0 ⊢; obtain ⟨v111, hv_⟩ : ∃ v_ : Value, v_ = .slice Ao23 t110.length co23 := ⟨_, rfl⟩; rw [← hv_] at ho0 ⊢; clear hv_; have n2_ := Aside0.mk ho0; have n3_ := Aside0.mk hb; clear HO_5 HO_7 HB; have HO_5 := n0_; have HO112 := n2_; have HB := n3_; clear n0_ n2_ n3_; clear hb hg ho0; obtain ⟨Ao25, co25, eo25⟩ := Kd.R_slice HO_5.out; subst eo25) | ((with_reducible refine gate_callee (f := 104) rfl ?_); refine gl_ (some 55) Tryz.func104 #[.slice Ao25 x5_1.length co25] ?_; (with_reducible refine (market_sum.calls k1 _ _ x5_1 t113 _ ?side1 ?side2 A19.out).mono ?_); (case side1 => repeat (first | exact (Kd.R_reads' HO_5.out).2.2 | (with_reducible refine Kd.C_alloc ?_ _) | (with_reducible refine Kd.C_drewN ?_ _) | (with_reducible refine Kd.C_drew ?_))); (case side2 => exact (Kd.R_reads' HO_5.out).2.1); rintro e w' ⟨rfl, ⟨nd, rfl⟩⟩; refine ⟨_, rfl, ?_⟩; obtain ⟨Ao26, co26, eo26⟩ := Kd.R_slice HO112.out; subst eo26; have q27 : ((ji20) : Int) ≤ ((t110.length : Int) : Int) := of_decide_eq_true (by first | (with_reducible assumption) | assumption); obtain ⟨i027, hi027, _, hsz27, _⟩ := info_parts info221; have hcut27 := cut_to (P := Tryz.prog) 219 221 .i64 Tryz.underlying219 hi027 Ao26 t110.length co26 (ji20) (of_decide_eq_true (by first | (with_reducible assumption) | assumption)) q27 (Kd.R_reads' HO112.out).2.1; have hr27 := Kd.R_take (m := ((ji20) : Int).toNat) HO112.out (by omega); have hy27 : y114.length = ((ji20) : Int).toNat := (by rw [Ny114.out, List.length_take]; omega); rw [← Ny114.out] at hr27; rw [← hy27] at hr27 hcut27; clear hy27 hi027 hsz27 HO112; have HO116 := Aside0.mk hr27; clear hr27; replace q27 := eq_true q27))
       go_loopg [59] k1 (fun kq v59 w' => ∃ (x5_2 : List Int) (x59_2 : Int), v59 = .int .i64 x59_2 ∧ Aside0 (market_shared.l1 kq x5_2 y114 (y114.length : Int) x59_2 = some r) ∧ Aside0 (kq ≤ k1) ∧ Aside0 (Kd.R (Kd.int .i64) 3 w' w.heap.size (fun _ => True) (.slice Ao25 x5_1.length co25) x5_2) ∧ Aside0 (Kd.R k221 221 w' w.heap.size (fun _ => True) (.slice Ao26 y114.length co26) y114) ∧ Aside0 (Below w.heap.size w w'))
       case atStart => exact ⟨(x5_1), (0), (by first | rfl | (simp; done) | (simp [*]; done)), H', ⟨Nat.le_refl _⟩, ⟨by (with_reducible repeat (first | apply Kd.R_alloc | apply Kd.R_drewN | apply Kd.R_drew)); exact HO_5.out⟩, ⟨by (with_reducible repeat (first | apply Kd.R_alloc | apply Kd.R_drewN | apply Kd.R_drew)); exact Kd.R_mono HO116.out (fun _ hk => trivial)⟩, ⟨by repeat (first | (with_reducible first | exact HB.out | apply below_alloc | apply pw_below_drewN | apply below_drew1) | exact HB.out)⟩⟩
       case round =>
        clear H'
        try clear c1
        try clear p1
        try clear q1
        try clear hx1
        try clear c2
        try clear p2
        try clear q2
        try clear c3
        try clear c5
        try clear c5b0
        try clear p6
        try clear c8
        try clear c8b0
        try clear c9
        try clear c9b0
        try clear c10
        try clear c10b0
        try clear p10
        try clear q10
        try clear hx10
        try clear c11
        try clear c11b0
        try clear c11b1
        try clear c12
        try clear c12b0
        try clear p13
        try clear q13
        try clear hx13
        try clear hf13
        try clear c14
        try clear c21
        try clear c21b0
        try clear c21b1
        try clear c22
        try clear c22b0
        try clear c22b1
        try clear q27
        try clear hx105_0
        try clear hx13_0
        try clear p105
        try clear p13
        try clear p2
        try clear q105
        try clear q13
        try clear q27
        obtain ⟨x5_2, x59_2, rfl, HA, HK2, HO_5, HO_57, HB⟩ := hrel
        have hl5_2 := (Kd.R_reads' HO_5.out).1
        rw [hl5_2] at HO_5
        (try simp only [hl5_2])
        (try simp only [hl5_2] at HO_57)
        cases gk with
        | zero => exact absurd HA.out (by simp [market_shared.l1])
        | succ k2 =>
         have H := HA.out
         clear HA
         simp only [market_shared.l1] at H
         by_cases c28 : x59_2 < (y114.length : Int)
         ·rw [if_pos c28] at H
          have c28b0 : decide (x59_2 < (y114.length : Int)) = true := decide_eq_true c28
          clear c28
          by_cases c29 : 0 ≤ x59_2
          ·rw [if_pos c29] at H
           have c29b0 : decide (0 ≤ x59_2) = true := decide_eq_true c29
           clear c29
           by_cases c30 : x59_2 < (y114.length : Int)
           ·rw [if_pos c30] at H
            have c30b0 : decide (x59_2 < (y114.length : Int)) = true := decide_eq_true c30
            clear c30
            replace H := Option.bind_eq_some_iff.mp H
            obtain ⟨t119, A310, H⟩ := H
            replace H : (if 0 ≤ t119 then (if t119 < (x5_2.length : Int) then (market_shared.l1 k2 (x5_2.set (t119 : Int).toNat (wrap64 ((rd x5_2 t119) + 1))) y114 (y114.length : Int) (wrap64 (x59_2 + 1))) else (none)) else (none)) = some r := H
            have A31 := Aside0.mk A310
            clear A310
            by_cases c32 : 0 ≤ t119
            ·rw [if_pos c32] at H
             have c32b0 : decide (0 ≤ t119) = true := decide_eq_true c32
             clear c32
             by_cases c33 : t119 < (x5_2.length : Int)
             ·rw [if_pos c33] at H
              have c33b0 : decide (t119 < (x5_2.length : Int)) = true := decide_eq_true c33
              clear c33
              obtain ⟨y121, hy121⟩ : ∃ y_ : List Int, y_ = (x5_2.set (t119 : Int).toNat (wrap64 ((rd x5_2 t119) + 1))) := ⟨_, rfl⟩
              replace H : (market_shared.l1 k2 y121 y114 (y114.length : Int) (wrap64 (x59_2 + 1))) = some r := by first | (rw [hy121]; with_reducible exact H) | (have H2_ := (Option.bind_some _ _).symm.trans H; rw [hy121]; with_reducible exact H2_) | (have H2_ := (Option.bind_some _ _).symm.trans H; with_reducible exact H2_) | with_reducible exact H | (rw [hy121]; exact H) | exact H
              have Ny121 := Aside0.mk hy121
              clear hy121
              have H' := Aside0.mk H
              clear H
              have p117 : 0 ≤ (x59_2 : Int) := of_decide_eq_true (by first | (with_reducible assumption) | assumption)
              have q117 : x59_2 < (y114.length : Int) := of_decide_eq_true (by first | (with_reducible assumption) | assumption)
              obtain ⟨ad117, e117, hx117_0, hx117_1⟩ := at_T221 (Kd.R_reads' HO_57.out).2.2 x59_2 p117 q117
              cases e117
              replace p117 := eq_true p117
              replace q117 := eq_true q117
              go_wp2_with (first | ((with_reducible refine gate_dst (N := 11) rfl ?_); refine box_event ?hg (N := 11) ?hd (cs := #[.int .i64 0, .int .i64 0]) (t := 221) ?hr ?_; (case hd => rfl); (case hg => rfl); (case hr => first | (go_simp; done) | (go_simp; rfl)); intro gb118 hg w35 hbox hb; have n0_ := Aside0.mk (Kd.R_below (rs_ HO_5.out) hb); have n1_ := Aside0.mk (Kd.R_below (Kd.R_elderB (rs_ HO_57.out) gb118 (Nat.le_of_eq hg.symm)) hb); have n2_ := Aside0.mk (below_step (ws_ HB.out) hb); have n3_ := Aside0.mk (hbox); have n4_ := Aside0.mk ((by rw [hg]; exact (below_size (ws_ HB.out)) : w.heap.size ≤ gb118)); have n5_ := Aside0.mk ((by rw [hg]; exact (below_size (ws_ HB.out)) : w.heap.size ≤ gb118)); clear HO_5; clear HO_57; clear HB; have HO_5 := n0_; have HO_57 := n1_; have HB := n2_; have BK118 := n3_; have GW118 := n4_; have GE118 := n5_; clear n0_ n1_ n2_ n3_ n4_ n5_; clear hb hbox hg; have hcz36_0 : w35.cell? ⟨gb118, 0, none⟩ = some (.int .i64 0) := (blk_cell BK118.out 0).trans rfl; have hcz36_1 : w35.cell? ⟨gb118, 1, none⟩ = some (.int .i64 0) := (blk_cell BK118.out 1).trans rfl; have hfz36_0 := blk_frozen BK118.out 0; have hfz36_1 := blk_frozen BK118.out 1) | ((with_reducible refine gate_dst (N := 65) rfl ?_); refine arr_event (v := .int .i64 ((rd_T221 y114 x59_2).f0)) ?hg (N := some 65) ?hd ?hr ?_; (case hd => rfl); (case hg => rfl); (case hr => first | (go_simp; done) | (go_simp; rfl)); intro v_ w37 hv_ hw_; have hb := below_eq hw_; rw [show ((rd_T221 y114 x59_2).f0) = t119 from Option.some.inj A31.out] at hv_; subst hv_; clear hw_; have n0_ := Aside0.mk (Kd.R_below (by (with_reducible repeat (first | apply Kd.R_alloc | apply Kd.R_drewN | apply Kd.R_drew)); exact (Kd.R_mono (Kd.R_far (p := ⟨gb118, 1, none⟩) (Kd.R_far (p := ⟨gb118, 0, none⟩) (Kd.R_types HO_5.out BK118.out (by decide)) (fun _ hk => hk.2) (.int .i64 ((rd_T221 y114 x59_2).f0))) (fun _ hk => hk.2) (.int .i64 ((rd_T221 y114 x59_2).f1))) (fun _ h_ => h_.1))) hb); have n1_ := Aside0.mk (Kd.R_below (by (with_reducible repeat (first | apply Kd.R_alloc | apply Kd.R_drewN | apply Kd.R_drew)); exact (Kd.R_mono (Kd.R_far (p := ⟨gb118, 1, none⟩) (Kd.R_far (p := ⟨gb118, 0, none⟩) (Kd.R_mono HO_57.out (fun k_ hk => (⟨hk, hk.2⟩ : _ ∧ k_ ≠ gb118))) (fun _ hk => hk.2) (.int .i64 ((rd_T221 y114 x59_2).f0))) (fun _ hk => hk.2) (.int .i64 ((rd_T221 y114 x59_2).f1))) (fun _ h_ => h_.1))) hb); have n2_ := Aside0.mk (blk_below (g := gb118) (o := .cells #[.int .i64 ((rd_T221 y114 x59_2).f0), .int .i64 ((rd_T221 y114 x59_2).f1)] 221 (0, 0)) (by (with_reducible repeat (first | refine blk_drewN ?_ _ | refine blk_drew ?_ | refine blk_alloc ?_ _)); refine blk_put (cs := #[.int .i64 ((rd_T221 y114 x59_2).f0), .int .i64 0]) ?_ 1 _ rfl; (with_reducible repeat (first | refine blk_drewN ?_ _ | refine blk_drew ?_ | refine blk_alloc ?_ _)); refine blk_put (cs := #[.int .i64 0, .int .i64 0]) ?_ 0 _ rfl; (with_reducible repeat (first | refine blk_drewN ?_ _ | refine blk_drew ?_ | refine blk_alloc ?_ _)); exact BK118.out) hb); have n3_ := Aside0.mk (below_step (wg_ HB.out GE118.out) hb); clear HO_5; clear HO_57; clear BK118; clear HB; have HO_5 := n0_; have HO_57 := n1_; have BK118 := n2_; have HB := n3_; clear n0_ n1_ n2_ n3_; (try clear hb); (try clear hb2); (try clear hk); (try clear hi); have p120 : 0 ≤ (t119 : Int) := of_decide_eq_true (by first | (with_reducible assumption) | assumption); have q120 : t119 < (x5_2.length : Int) := of_decide_eq_true (by first | (with_reducible assumption) | assumption); obtain ⟨ad120, e120, hx120_0⟩ := Kd.at_int (Kd.R_reads' HO_5.out).2.2 t119 p120 q120; cases e120; replace p120 := eq_true p120; replace q120 := eq_true q120; have p34 : 0 ≤ (t119 : Int) := of_decide_eq_true (by first | (with_reducible assumption) | assumption); have q34 : (t119 : Int) < ((x5_2.length : Int) : Int) := of_decide_eq_true (by first | (with_reducible assumption) | assumption); obtain ⟨go34, co34, eo34, gb34, gl34, cl34, HG34⟩ := Kd.R_form HO_5.out (by omega); (first | cases eo34 | (injection eo34 with ea_ en_ ec_; (first | subst ea_ | (injection ea_ with ea_; subst ea_)); subst ec_; clear en_)); have GB34 := Aside0.mk gb34; have GG34 := Aside0.mk HG34; clear gb34 gl34 HG34; (first | simp only [add_plain] at hx120_0 | skip); obtain ⟨hx34_0, hf34_0⟩ := Kd.R_celln 0 HO_5.out (t119 : Int) p34 q34; replace p34 := eq_true p34; replace q34 := eq_true q34; obtain ⟨hy38_, hz38_⟩ := Kd.R_celln 0 HO_5.out (t119 : Int) (of_decide_eq_true (by first | (with_reducible assumption) | assumption)) (of_decide_eq_true (by first | (with_reducible assumption) | assumption)); have HP38 := Kd.R_putg HO_5.out (t119 : Int) (wrap64 ((rd x5_2 t119) + 1))) | ((with_reducible refine gate_store (t := 3) (p := 69) rfl ?_); refine store_event (t := 3) (p := 69) (v := ?vo_w39) (w1 := (w37.setCell ⟨go34, (t119 : Int).toNat, none⟩ (.int .i64 (wrap64 ((rd x5_2 t119) + 1))))) ?hg ?ho ?hn ?hr ?_; (case ho => rfl); (case hg => rfl); (case hn => rfl); (case hr => first | (go_simp; done) | (go_simp; rfl)); intro w39 hw; have hg : w37.grownBy w39 (some go34) := (by rw [hw]; exact HP38.2); have hp_ : Kd.R (Kd.int .i64) 3 w39 w.heap.size (fun _ => True) (.slice (some ⟨go34, 0, none⟩) x5_2.length co25) y121 := (by rw [hw, Ny121.out]; exact HP38.1); clear HP38; have n0_ := Aside0.mk (hp_); have n1_ := Aside0.mk (Kd.R_over' (v := (.slice (some ⟨go34, 0, none⟩) x5_2.length co25)) (rs_ HO_57.out) (Kd.R_typed HO_5.out) (by decide) hg); have n2_ := Aside0.mk (blk_grown (g := gb118) (o := .cells #[.int .i64 ((rd_T221 y114 x59_2).f0), .int .i64 ((rd_T221 y114 x59_2).f1)] 221 (0, 0)) (bs_ BK118.out) hg (Kd.R_ne HO_5.out BK118.out (by decide))); have n3_ := Aside0.mk ((by rw [hw]; exact below_set (HB.out) GB34.out : Below w.heap.size w w39)); clear HO_5; clear HO_57; clear BK118; clear HB; have HO_5 := n0_; have HO_57 := n1_; have BK118 := n2_; have HB := n3_; clear n0_ n1_ n2_ n3_; clear hg hw hp_))
              (try simp only [← hl5_2])
              go_roundg k2
              case measure => have := HK1.out; have := HK2.out; omega
              case rel => exact ⟨(y121), (wrap64 (x59_2 + 1)), (by first | rfl | (simp; done) | (simp [*]; done)), H', ⟨by have := HK1.out; have := HK2.out; omega⟩, ⟨by (try simp only [hl5_2]); (with_reducible repeat (first | apply Kd.R_alloc | apply Kd.R_drewN | apply Kd.R_drew)); exact HO_5.out⟩, ⟨by (try simp only [hl5_2]); (with_reducible repeat (first | apply Kd.R_alloc | apply Kd.R_drewN | apply Kd.R_drew)); exact Kd.R_mono HO_57.out (fun _ hk => trivial)⟩, ⟨by repeat (first | (with_reducible first | exact HB.out | apply below_alloc | apply pw_below_drewN | apply below_drew1 | refine below_set ?_ GE118.out) | exact HB.out)⟩⟩
             ·rw [if_neg c33] at H
              exact absurd H (by simp)
            ·rw [if_neg c32] at H
             exact absurd H (by simp)
           ·rw [if_neg c30] at H
            exact absurd H (by simp)
          ·rw [if_neg c29] at H
           exact absurd H (by simp)
         ·rw [if_neg c28] at H
          have c28b0 : decide (x59_2 < (y114.length : Int)) = false := decide_eq_false c28
          clear c28
          obtain rfl := Option.some.inj H
          go_wp2
          go_ret
          exact ⟨_, by first | rfl | (simp [errW_none, errW_some] <;> rfl) | (simp only [← hji20]; first | rfl | (simp [errW_none, errW_some] <;> rfl)) | (simp [*, errW_none, errW_some] <;> rfl), by (with_reducible repeat (first | apply Kd.R_alloc | apply Kd.R_drewN | apply Kd.R_drew)); exact HO_5.out, by repeat (first | (with_reducible first | exact HB.out | apply below_alloc | apply pw_below_drewN | apply below_drew1) | exact HB.out)⟩
      ·rw [if_neg c22] at H
       exact absurd H (by simp)
     ·rw [if_neg c21] at H
      exact absurd H (by simp)
/-! ### market_first: function 85 -/
def market_first.l0 : Nat → List Int → Int → Int → Option (Int)
 | 0, _, _, _ => none
 | k + 1, x5, x6, x7 => if x7 < x6 then (if 0 ≤ x7 then (if x7 < (x5.length : Int) then (if (rd x5 x7) = 0 then (market_first.l0 k x5 x6 (wrap64 (x7 + 1))) else (some (rd x5 x7))) else (none)) else (none)) else (some 0)
def market_first.f (k : Nat) (l0 : List Int) : Option (Int) := market_first.l0 k l0 (l0.length : Int) 0
set_option maxHeartbeats 8000000 in
set_option maxRecDepth 100000 in
theorem market_first.calls (k : Nat) (A0 : Option Addr) (c0 : Nat) (l0 : List Int) (r : Int) (w : World) (hr0 : Kd.C (Kd.int .i64) w A0 l0.length l0) (hc0 : l0.length ≤ c0) (h : market_first.f k l0 = some r) :
  Calls Tryz.prog 85 #[.slice A0 l0.length c0] w fun e w' => e = .returned (.int .i64 r) ∧ Drawn0 w w' := by
 have HR0 := Aside0.mk hr0
 have HC0 := Aside0.mk hc0
 clear hr0 hc0
 have H : (market_first.l0 k l0 (l0.length : Int) 0) = some r := h
 clear h
 have H' := Aside0.mk H
 clear H
 go_enter Tryz.func85, Tryz.ntmps85
 go_wp2
 go_loopg [7] k (fun kq v7 w' => ∃ (x7_1 : Int), v7 = .int .i64 x7_1 ∧ Aside0 (market_first.l0 kq l0 (l0.length : Int) x7_1 = some r) ∧ Aside0 (kq ≤ k) ∧ Drawn0 w w')
 case atStart => exact ⟨(0), (by first | rfl | (simp; done) | (simp [*]; done)), H', ⟨Nat.le_refl _⟩, by repeat (first | exact Drawn0.refl _ | apply Drawn0.step)⟩
 case round =>
  clear H'
  obtain ⟨x7_1, rfl, HA, HK1, ⟨m1, rfl⟩⟩ := hrel
  cases gk with
  | zero => exact absurd HA.out (by simp [market_first.l0])
  | succ k1 =>
   have H := HA.out
   clear HA
   simp only [market_first.l0] at H
   by_cases c2 : x7_1 < (l0.length : Int)
   ·rw [if_pos c2] at H
    have c2b0 : decide (x7_1 < (l0.length : Int)) = true := decide_eq_true c2
    clear c2
    by_cases c3 : 0 ≤ x7_1
    ·rw [if_pos c3] at H
     have c3b0 : decide (0 ≤ x7_1) = true := decide_eq_true c3
     clear c3
     by_cases c4 : x7_1 < (l0.length : Int)
     ·rw [if_pos c4] at H
      have c4b0 : decide (x7_1 < (l0.length : Int)) = true := decide_eq_true c4
      clear c4
      by_cases c5 : (rd l0 x7_1) = 0
      ·rw [if_pos c5] at H
       have c5b0 : ((rd l0 x7_1) == 0) = true := beq_iff_eq.mpr c5
       have c5b1 : ((rd l0 x7_1) != 0) = false := bne_eq_false_iff_eq.mpr c5
       clear c5
       have H' := Aside0.mk H
       clear H
       have p101 : 0 ≤ (x7_1 : Int) := of_decide_eq_true (by first | (with_reducible assumption) | assumption)
       have q101 : x7_1 < (l0.length : Int) := of_decide_eq_true (by first | (with_reducible assumption) | assumption)
       obtain ⟨ad101, e101, hx101_0⟩ := Kd.at_int HR0.out x7_1 p101 q101
       cases e101
       replace p101 := eq_true p101
       replace q101 := eq_true q101
       go_wp2
       go_roundg k1
       case measure => have := HK1.out; omega
       case rel => exact ⟨(wrap64 (x7_1 + 1)), (by first | rfl | (simp; done) | (simp [*]; done)), H', ⟨by have := HK1.out; omega⟩, by repeat (first | exact Drawn0.refl _ | apply Drawn0.step)⟩
      ·rw [if_neg c5] at H
       have c5b0 : ((rd l0 x7_1) == 0) = false := beq_eq_false_iff_ne.mpr c5
       have c5b1 : ((rd l0 x7_1) != 0) = true := bne_iff_ne.mpr c5
       obtain rfl := Option.some.inj H
       have p101 : 0 ≤ (x7_1 : Int) := of_decide_eq_true (by first | (with_reducible assumption) | assumption)
       have q101 : x7_1 < (l0.length : Int) := of_decide_eq_true (by first | (with_reducible assumption) | assumption)
       obtain ⟨ad101, e101, hx101_0⟩ := Kd.at_int HR0.out x7_1 p101 q101
       cases e101
       replace p101 := eq_true p101
       replace q101 := eq_true q101
       go_wp2
       go_ret
       exact ⟨by first | rfl | (simp; done) | (simp [*]; done), by repeat (first | exact Drawn0.refl _ | apply Drawn0.step)⟩
     ·rw [if_neg c4] at H
      exact absurd H (by simp)
    ·rw [if_neg c3] at H
     exact absurd H (by simp)
   ·rw [if_neg c2] at H
    have c2b0 : decide (x7_1 < (l0.length : Int)) = false := decide_eq_false c2
    clear c2
    obtain rfl := Option.some.inj H
    go_wp2
    go_ret
    exact ⟨by first | rfl | (simp; done) | (simp [*]; done), by repeat (first | exact Drawn0.refl _ | apply Drawn0.step)⟩
/-! ### market_checkEnergy: function 86 -/
def market_checkEnergy.f (a0 : Int) : Option (Int) := (market_within.f a0 0 100000).bind fun t101 => (some t101)
set_option maxHeartbeats 8000000 in
set_option maxRecDepth 100000 in
theorem market_checkEnergy.calls (a0 : Int) (r : Int) (w : World) (h : market_checkEnergy.f a0 = some r) :
  Calls Tryz.prog 86 #[.int .i64 a0] w fun e w' => e = .returned (.int .i64 r) ∧ Drawn0 w w' := by
 have H : ((market_within.f a0 0 100000).bind fun t101 => (some t101)) = some r := h
 clear h
 replace H := Option.bind_eq_some_iff.mp H
 obtain ⟨t101, A20, H⟩ := H
 replace H : (some t101) = some r := H
 have A2 := Aside0.mk A20
 clear A20
 obtain rfl := Option.some.inj H
 go_enter Tryz.func86, Tryz.ntmps86
 go_wp2_with (first | ((with_reducible refine gate_callee (f := 91) rfl ?_); refine gl_ (some 4) Tryz.func91 #[.int .i64 a0, .int .i64 0, .int .i64 100000] ?_; (with_reducible refine (market_within.calls a0 0 100000 t101 _ A2.out).mono ?_); rintro e w' ⟨rfl, ⟨nd, rfl⟩⟩; refine ⟨_, rfl, ?_⟩))
 go_ret
 exact ⟨by first | rfl | (simp; done) | (simp [*]; done), by repeat (first | exact Drawn0.refl _ | apply Drawn0.step)⟩
/-! ### api_Errno_92__market_checkEnergy: function 92 -/
def api_Errno_92__market_checkEnergy.l0 : Nat → List Int → List Int → Int → Int → Option (List Int)
 | 0, _, _, _, _ => none
 | k + 1, x5, x8, x9, x10 => if x10 < x9 then (if 0 ≤ x10 then (if x10 < (x8.length : Int) then ((market_checkEnergy.f (rd x8 x10)).bind fun t102 => (if x5.length < 17592186044416 then (api_Errno_92__market_checkEnergy.l0 k (x5 ++ [t102]) x8 x9 (wrap64 (x10 + 1))) else (none))) else (none)) else (none)) else (some x5)
def api_Errno_92__market_checkEnergy.f (k : Nat) (l0 : List Int) (a1 : Unit) : Option (List Int) := api_Errno_92__market_checkEnergy.l0 k ([] : List Int) l0 (l0.length : Int) 0
set_option maxHeartbeats 8000000 in
set_option maxRecDepth 100000 in
theorem api_Errno_92__market_checkEnergy.calls (k : Nat) (A0 : Option Addr) (c0 : Nat) (l0 : List Int) (a1 : Unit) (r : List Int) (w : World) (hr0 : Kd.C (Kd.int .i64) w A0 l0.length l0) (hc0 : l0.length ≤ c0) (h : api_Errno_92__market_checkEnergy.f k l0 a1 = some r) :
  Calls Tryz.prog 92 #[.slice A0 l0.length c0, .func (.func 86) #[] #[]] w fun e w' => ∃ v0_ : Value, e = .returned (v0_) ∧ Kd.R (Kd.int .i64) 28 w' w.heap.size (fun _ => True) v0_ r ∧ Below w.heap.size w w' := by
 have HR0 := Aside0.mk hr0
 have HC0 := Aside0.mk hc0
 clear hr0 hc0
 have HB := Aside0.mk (Below.refl w.heap.size w)
 have H : (api_Errno_92__market_checkEnergy.l0 k ([] : List Int) l0 (l0.length : Int) 0) = some r := h
 clear h
 have H' := Aside0.mk H
 clear H
 go_enter Tryz.func92, Tryz.ntmps92
 go_wp2
 go_loopg [5, 10] k (fun kq v5 v10 w' => ∃ (x5_1 : List Int) (x10_1 : Int), v10 = .int .i64 x10_1 ∧ Aside0 (api_Errno_92__market_checkEnergy.l0 kq x5_1 l0 (l0.length : Int) x10_1 = some r) ∧ Aside0 (kq ≤ k) ∧ Aside0 (Kd.R (Kd.int .i64) 28 w' w.heap.size (fun _ => True) v5 x5_1) ∧ Aside0 (Below w.heap.size w w'))
 case atStart => exact ⟨(([] : List Int)), (0), (by first | rfl | (simp; done) | (simp [*]; done)), H', ⟨Nat.le_refl _⟩, ⟨by first | exact Kd.R_nil _ _ _ _ _ | exact Kd.N_nil _ _ _ _ _ | exact Kd.V_nil _ _ _ _ _ | exact Kd.Q_nil _ _ _ _ _ | exact Kd.S_nil _ _ _ _ _⟩, ⟨by repeat (first | (with_reducible first | exact HB.out | apply below_alloc | apply pw_below_drewN | apply below_drew1) | exact HB.out)⟩⟩
 case round =>
  clear H'
  try clear p2
  obtain ⟨x5_1, x10_1, rfl, HA, HK1, HO_5, HB⟩ := hrel
  cases gk with
  | zero => exact absurd HA.out (by simp [api_Errno_92__market_checkEnergy.l0])
  | succ k1 =>
   have H := HA.out
   clear HA
   simp only [api_Errno_92__market_checkEnergy.l0] at H
   by_cases c3 : x10_1 < (l0.length : Int)
   ·rw [if_pos c3] at H
    have c3b0 : decide (x10_1 < (l0.length : Int)) = true := decide_eq_true c3
    clear c3
    by_cases c4 : 0 ≤ x10_1
    ·rw [if_pos c4] at H
     have c4b0 : decide (0 ≤ x10_1) = true := decide_eq_true c4
     clear c4
     by_cases c5 : x10_1 < (l0.length : Int)
     ·rw [if_pos c5] at H
      have c5b0 : decide (x10_1 < (l0.length : Int)) = true := decide_eq_true c5
      clear c5
      replace H := Option.bind_eq_some_iff.mp H
      obtain ⟨t102, A60, H⟩ := H
      replace H : (if x5_1.length < 17592186044416 then (api_Errno_92__market_checkEnergy.l0 k1 (x5_1 ++ [t102]) l0 (l0.length : Int) (wrap64 (x10_1 + 1))) else (none)) = some r := H
      have A6 := Aside0.mk A60
      clear A60
      by_cases c7 : x5_1.length < 17592186044416
      ·rw [if_pos c7] at H
       have LMc7 := Aside0.mk c7
       clear c7
       obtain ⟨y103, hy103⟩ : ∃ y_ : List Int, y_ = (x5_1 ++ [t102]) := ⟨_, rfl⟩
       replace H : (api_Errno_92__market_checkEnergy.l0 k1 y103 l0 (l0.length : Int) (wrap64 (x10_1 + 1))) = some r := by first | (rw [hy103]; with_reducible exact H) | (have H2_ := (Option.bind_some _ _).symm.trans H; rw [hy103]; with_reducible exact H2_) | (have H2_ := (Option.bind_some _ _).symm.trans H; with_reducible exact H2_) | with_reducible exact H | (rw [hy103]; exact H) | exact H
       have Ny103 := Aside0.mk hy103
       clear hy103
       have H' := Aside0.mk H
       clear H
       have p101 : 0 ≤ (x10_1 : Int) := of_decide_eq_true (by first | (with_reducible assumption) | assumption)
       have q101 : x10_1 < (l0.length : Int) := of_decide_eq_true (by first | (with_reducible assumption) | assumption)
       obtain ⟨ad101, e101, hx101_0⟩ := Kd.at_int HR0.out x10_1 p101 q101
       cases e101
       replace hx101_0 := (HB.out.cell (World.block_lt_of_cell? w _ hx101_0)).trans hx101_0
       replace p101 := eq_true p101
       replace q101 := eq_true q101
       go_wp2_with (first | ((with_reducible refine gate_calleeT (t := 15) rfl ?_); refine goesT_ (some 17) rfl rfl Tryz.func86 (by kernel_rfl) rfl #[.int .i64 (rd l0 x10_1)] rfl rfl (by (try simp only [List.map_toArray, List.map_cons, List.map_nil]); first | done | rfl | (simp only [List.length_drop, List.length_take]; rfl)) ?_; (with_reducible refine (market_checkEnergy.calls (rd l0 x10_1) t102 _ A6.out).mono ?_); rintro e w' ⟨rfl, ⟨nd, rfl⟩⟩; refine ⟨_, rfl, ?_⟩) | ((with_reducible refine gate_builtin (b := .append) (xs := #[.tmp 14, .tmp 18]) rfl ?_); at_builtin; refine Kd.R_append (Kd.int .i64) (w0 := w) w.heap.size rfl (.tmp 14) (.tmp 18) 158 28 (.int .i64 0) 8 rfl Tryz.underlying158 info28 rfl (by decide) (by omega) u5 x5_1 t102 [.int .i64 t102] (fun _ => True) (fun _ => False) rfl rfl ?aP (fun _ hk => hk.elim) ?aF ?aO ?aB ?aS ?aL ?_; (case aP => exact rfl); (case aB => exact (ws_ HB.out)); (case aF => exact (fun _ _ => trivial)); (case aO => exact (rs_ HO_5.out)); (case aS => exact (below_size (ws_ HB.out))); (case aL => have := LMc7.out; omega); intro v104 w8 ho hb hg hat; rw [← Ny103.out] at ho; have n0_ := Aside0.mk (hb); have n1_ := Aside0.mk (ho); clear HB; clear HO_5; have HB := n0_; have HO105 := n1_; clear n0_ n1_; clear ho hb hg hat))
       go_roundg k1
       case measure => have := HK1.out; omega
       case rel => exact ⟨(y103), (wrap64 (x10_1 + 1)), (by first | rfl | (simp; done) | (simp [*]; done)), H', ⟨by have := HK1.out; omega⟩, ⟨by (with_reducible repeat (first | apply Kd.R_alloc | apply Kd.R_drewN | apply Kd.R_drew)); exact HO105.out⟩, ⟨by repeat (first | (with_reducible first | exact HB.out | apply below_alloc | apply pw_below_drewN | apply below_drew1) | exact HB.out)⟩⟩
      ·rw [if_neg c7] at H
       exact absurd H (by simp)
     ·rw [if_neg c5] at H
      exact absurd H (by simp)
    ·rw [if_neg c4] at H
     exact absurd H (by simp)
   ·rw [if_neg c3] at H
    have c3b0 : decide (x10_1 < (l0.length : Int)) = false := decide_eq_false c3
    clear c3
    obtain rfl := Option.some.inj H
    go_wp2
    go_ret
    exact ⟨_, by first | rfl | (simp [errW_none, errW_some] <;> rfl) | (simp [*, errW_none, errW_some] <;> rfl), by (with_reducible repeat (first | apply Kd.R_alloc | apply Kd.R_drewN | apply Kd.R_drew)); exact HO_5.out, by repeat (first | (with_reducible first | exact HB.out | apply below_alloc | apply pw_below_drewN | apply below_drew1) | exact HB.out)⟩
/-! ### market_Curtail: function 35 -/
def market_Curtail.f (k : Nat) (l0 : List Int) (a1 : Int) : Option (List Int × Int) := (market_when.f (decide ((l0.length : Int) > 64)) 5).bind fun t101 => ((api_Errno_92__market_checkEnergy.f k l0 ()).bind fun t102 => ((market_first.f k t102).bind fun t105 => ((market_checkTotal.f a1).bind fun t106 => ((market_first.f k (([t101, t105, t106] : List Int))).bind fun t110 => (if t110 = 0 then ((market_shared.f k l0 a1).bind fun t111 => (some (t111, 0))) else (some (([] : List Int), t110)))))))
set_option maxHeartbeats 8000000 in
set_option maxRecDepth 100000 in
theorem market_Curtail.calls (k : Nat) (A0 : Option Addr) (c0 : Nat) (l0 : List Int) (a1 : Int) (r1 : List Int) (r2 : Int) (w : World) (hr0 : Kd.C (Kd.int .i64) w A0 l0.length l0) (hc0 : l0.length ≤ c0) (h : market_Curtail.f k l0 a1 = some (r1, r2)) :
  Calls Tryz.prog 35 #[.slice A0 l0.length c0, .int .i64 a1] w fun e w' => ∃ v0_ : Value, e = .returned (.tuple #[v0_, .int .i64 r2]) ∧ Kd.R (Kd.int .i64) 3 w' w.heap.size (fun _ => True) v0_ r1 ∧ Below w.heap.size w w' := by
 have HR0 := Aside0.mk hr0
 have HC0 := Aside0.mk hc0
 clear hr0 hc0
 have HB := Aside0.mk (Below.refl w.heap.size w)
 have H : ((market_when.f (decide ((l0.length : Int) > 64)) 5).bind fun t101 => ((api_Errno_92__market_checkEnergy.f k l0 ()).bind fun t102 => ((market_first.f k t102).bind fun t105 => ((market_checkTotal.f a1).bind fun t106 => ((market_first.f k (([t101, t105, t106] : List Int))).bind fun t110 => (if t110 = 0 then ((market_shared.f k l0 a1).bind fun t111 => (some (t111, 0))) else (some (([] : List Int), t110)))))))) = some (r1, r2) := h
 clear h
 replace H := Option.bind_eq_some_iff.mp H
 obtain ⟨t101, A30, H⟩ := H
 replace H : ((api_Errno_92__market_checkEnergy.f k l0 ()).bind fun t102 => ((market_first.f k t102).bind fun t105 => ((market_checkTotal.f a1).bind fun t106 => ((market_first.f k (([t101, t105, t106] : List Int))).bind fun t110 => (if t110 = 0 then ((market_shared.f k l0 a1).bind fun t111 => (some (t111, 0))) else (some (([] : List Int), t110))))))) = some (r1, r2) := H
 have A3 := Aside0.mk A30
 clear A30
 replace H := Option.bind_eq_some_iff.mp H
 obtain ⟨t102, A40, H⟩ := H
 replace H : ((market_first.f k t102).bind fun t105 => ((market_checkTotal.f a1).bind fun t106 => ((market_first.f k (([t101, t105, t106] : List Int))).bind fun t110 => (if t110 = 0 then ((market_shared.f k l0 a1).bind fun t111 => (some (t111, 0))) else (some (([] : List Int), t110)))))) = some (r1, r2) := H
 have A4 := Aside0.mk A40
 clear A40
 replace H := Option.bind_eq_some_iff.mp H
 obtain ⟨t105, A50, H⟩ := H
 replace H : ((market_checkTotal.f a1).bind fun t106 => ((market_first.f k (([t101, t105, t106] : List Int))).bind fun t110 => (if t110 = 0 then ((market_shared.f k l0 a1).bind fun t111 => (some (t111, 0))) else (some (([] : List Int), t110))))) = some (r1, r2) := H
 have A5 := Aside0.mk A50
 clear A50
 replace H := Option.bind_eq_some_iff.mp H
 obtain ⟨t106, A60, H⟩ := H
 replace H : ((market_first.f k (([t101, t105, t106] : List Int))).bind fun t110 => (if t110 = 0 then ((market_shared.f k l0 a1).bind fun t111 => (some (t111, 0))) else (some (([] : List Int), t110)))) = some (r1, r2) := H
 have A6 := Aside0.mk A60
 clear A60
 obtain ⟨y107, hy107⟩ : ∃ y_ : List Int, y_ = (([t101, t105, t106] : List Int)) := ⟨_, rfl⟩
 replace H : ((market_first.f k y107).bind fun t110 => (if t110 = 0 then ((market_shared.f k l0 a1).bind fun t111 => (some (t111, 0))) else (some (([] : List Int), t110)))) = some (r1, r2) := by first | (rw [hy107]; with_reducible exact H) | (have H2_ := (Option.bind_some _ _).symm.trans H; rw [hy107]; with_reducible exact H2_) | (have H2_ := (Option.bind_some _ _).symm.trans H; with_reducible exact H2_) | with_reducible exact H | (rw [hy107]; exact H) | exact H
 have Ny107 := Aside0.mk hy107
 clear hy107
 replace H := Option.bind_eq_some_iff.mp H
 obtain ⟨t110, A70, H⟩ := H
 replace H : (if t110 = 0 then ((market_shared.f k l0 a1).bind fun t111 => (some (t111, 0))) else (some (([] : List Int), t110))) = some (r1, r2) := H
 have A7 := Aside0.mk A70
 clear A70
 by_cases c8 : t110 = 0
 ·rw [if_pos c8] at H
  have c8b0 : (t110 == 0) = true := beq_iff_eq.mpr c8
  have c8b1 : (t110 != 0) = false := bne_eq_false_iff_eq.mpr c8
  clear c8
  replace H := Option.bind_eq_some_iff.mp H
  obtain ⟨t111, A90, H⟩ := H
  replace H : (some (t111, 0)) = some (r1, r2) := H
  have A9 := Aside0.mk A90
  clear A90
  simp only [Option.some.injEq, Prod.mk.injEq] at H
  obtain ⟨rfl, rfl⟩ := H
  go_enter Tryz.func35, Tryz.ntmps35
  go_wp2_with (first | ((with_reducible refine gate_callee (f := 90) rfl ?_); refine gl_ (some 10) Tryz.func90 #[.bool (decide ((l0.length : Int) > 64)), .int .i64 5] ?_; (with_reducible refine (market_when.calls (decide ((l0.length : Int) > 64)) 5 t101 _ A3.out).mono ?_); rintro e w' ⟨rfl, ⟨nd, rfl⟩⟩; refine ⟨_, rfl, ?_⟩) | ((with_reducible refine gate_callee (f := 92) rfl ?_); refine gl_ (some 12) Tryz.func92 #[.slice A0 l0.length c0, .func (.func 86) #[] #[]] ?_; (with_reducible refine (api_Errno_92__market_checkEnergy.calls k _ _ l0 () t102 _ ?side1 ?side2 A4.out).mono ?_); (case side1 => exact cs_ HR0.out); (case side2 => exact HC0.out); rintro e w10 ⟨v103, rfl, ho0, hb⟩; refine ⟨_, rfl, ?_⟩; have n0_ := Aside0.mk (Kd.R_lower ho0 (below_size (ws_ HB.out))); have n1_ := Aside0.mk (below_step (ws_ HB.out) hb); clear HB; have HO104 := n0_; have HB := n1_; clear n0_ n1_; (try clear hb); (try clear hb2); (try clear hk); (try clear hi); (try clear ho0); obtain ⟨Ao11, co11, eo11⟩ := Kd.R_slice HO104.out; subst eo11) | ((with_reducible refine gate_callee (f := 85) rfl ?_); refine gl_ (some 13) Tryz.func85 #[.slice Ao11 t102.length co11] ?_; (with_reducible refine (market_first.calls k _ _ t102 t105 _ ?side1 ?side2 A5.out).mono ?_); (case side1 => repeat (first | exact (Kd.R_reads' HO104.out).2.2 | (with_reducible refine Kd.C_alloc ?_ _) | (with_reducible refine Kd.C_drewN ?_ _) | (with_reducible refine Kd.C_drew ?_))); (case side2 => exact (Kd.R_reads' HO104.out).2.1); rintro e w' ⟨rfl, ⟨nd, rfl⟩⟩; refine ⟨_, rfl, ?_⟩) | ((with_reducible refine gate_callee (f := 101) rfl ?_); refine gl_ (some 15) Tryz.func101 #[.int .i64 a1] ?_; (with_reducible refine (market_checkTotal.calls a1 t106 _ A6.out).mono ?_); rintro e w' ⟨rfl, ⟨nd, rfl⟩⟩; refine ⟨_, rfl, ?_⟩) | ((with_reducible refine gate_dst (N := 16) rfl ?_); refine Kd.R_lit (Kd.int .i64) _ 28 ?hg (N := 16) ?hd (xs := ([t101, t105, t106] : List Int)) (inner := [.int .i64 t101, .int .i64 t105, .int .i64 t106]) (ok := fun _ => True) (okp := fun _ => True) ?hr ?hp (fun _ hk => hk) trivial (Below.refl _ _) (Nat.le_refl _) (by simp) ?_; (case hd => rfl); (case hg => rfl); (case hr => first | (go_simp; done) | (go_simp; rfl)); (case hp => exact (Reps.one (show Kd.M (Kd.int .i64) _ _ _ t101 [.int .i64 t101] from rfl) (Reps.one (show Kd.M (Kd.int .i64) _ _ _ t105 [.int .i64 t105] from rfl) (Reps.one (show Kd.M (Kd.int .i64) _ _ _ t106 [.int .i64 t106] from rfl) (Reps.none _ _))))); intro v108 w12 ho13 hb hg_ hnew_; clear hg_ hnew_; (first | rw [← Ny107.out] at ho13 | (simp only [Int.reduceToNat] at ho13; rw [← Ny107.out] at ho13)); have n0_ := Aside0.mk (Kd.R_elder' (rs_ HO104.out) (Kd.R_base ho13) hb); have n1_ := Aside0.mk (Kd.R_lower (Kd.R_new' ho13 (Kd.R_lt (rs_ HO104.out))) (below_size (ws_ HB.out))); have n2_ := Aside0.mk (below_step (ws_ HB.out) hb); clear HO104; clear HB; have HO104 := n0_; have HO109 := n1_; have HB := n2_; clear n0_ n1_ n2_; clear hb ho13; obtain ⟨Ao14, co14, eo14⟩ := Kd.R_slice HO109.out; subst eo14) | ((with_reducible refine gate_callee (f := 85) rfl ?_); refine gl_ (some 17) Tryz.func85 #[.slice Ao14 y107.length co14] ?_; (with_reducible refine (market_first.calls k _ _ y107 t110 _ ?side1 ?side2 A7.out).mono ?_); (case side1 => repeat (first | exact (Kd.R_reads' HO109.out).2.2 | (with_reducible refine Kd.C_alloc ?_ _) | (with_reducible refine Kd.C_drewN ?_ _) | (with_reducible refine Kd.C_drew ?_))); (case side2 => exact (Kd.R_reads' HO109.out).2.1); rintro e w' ⟨rfl, ⟨nd, rfl⟩⟩; refine ⟨_, rfl, ?_⟩) | ((with_reducible refine gate_callee (f := 102) rfl ?_); refine gl_ (some 23) Tryz.func102 #[.slice A0 l0.length c0, .int .i64 a1] ?_; (with_reducible refine (market_shared.calls k _ _ l0 a1 t111 _ ?side1 ?side2 A9.out).mono ?_); (case side1 => repeat (first | exact (Kd.C_below HR0.out (ws_ HB.out)) | (with_reducible refine Kd.C_alloc ?_ _) | (with_reducible refine Kd.C_drewN ?_ _) | (with_reducible refine Kd.C_drew ?_))); (case side2 => exact HC0.out); rintro e w15 ⟨v112, rfl, ho0, hb⟩; refine ⟨_, rfl, ?_⟩; have n0_ := Aside0.mk (Kd.R_below (rs_ HO104.out) hb); have n1_ := Aside0.mk (Kd.R_below (rs_ HO109.out) hb); have n2_ := Aside0.mk (Kd.R_lower ho0 (below_size (ws_ HB.out))); have n3_ := Aside0.mk (below_step (ws_ HB.out) hb); clear HO104; clear HO109; clear HB; have HO104 := n0_; have HO109 := n1_; have HO113 := n2_; have HB := n3_; clear n0_ n1_ n2_ n3_; (try clear hb); (try clear hb2); (try clear hk); (try clear hi); (try clear ho0)))
  go_ret2
  exact ⟨_, by first | rfl | (simp [errW_none, errW_some] <;> rfl) | (simp [*, errW_none, errW_some] <;> rfl), by (with_reducible repeat (first | apply Kd.R_alloc | apply Kd.R_drewN | apply Kd.R_drew)); exact HO113.out, by repeat (first | (with_reducible first | exact HB.out | apply below_alloc | apply pw_below_drewN | apply below_drew1) | exact HB.out)⟩
 ·rw [if_neg c8] at H
  have c8b0 : (t110 == 0) = false := beq_eq_false_iff_ne.mpr c8
  have c8b1 : (t110 != 0) = true := bne_iff_ne.mpr c8
  simp only [Option.some.injEq, Prod.mk.injEq] at H
  obtain ⟨rfl, rfl⟩ := H
  go_enter Tryz.func35, Tryz.ntmps35
  go_wp2_with (first | ((with_reducible refine gate_callee (f := 90) rfl ?_); refine gl_ (some 10) Tryz.func90 #[.bool (decide ((l0.length : Int) > 64)), .int .i64 5] ?_; (with_reducible refine (market_when.calls (decide ((l0.length : Int) > 64)) 5 t101 _ A3.out).mono ?_); rintro e w' ⟨rfl, ⟨nd, rfl⟩⟩; refine ⟨_, rfl, ?_⟩) | ((with_reducible refine gate_callee (f := 92) rfl ?_); refine gl_ (some 12) Tryz.func92 #[.slice A0 l0.length c0, .func (.func 86) #[] #[]] ?_; (with_reducible refine (api_Errno_92__market_checkEnergy.calls k _ _ l0 () t102 _ ?side1 ?side2 A4.out).mono ?_); (case side1 => exact cs_ HR0.out); (case side2 => exact HC0.out); rintro e w16 ⟨v103, rfl, ho0, hb⟩; refine ⟨_, rfl, ?_⟩; have n0_ := Aside0.mk (Kd.R_lower ho0 (below_size (ws_ HB.out))); have n1_ := Aside0.mk (below_step (ws_ HB.out) hb); clear HB; have HO104 := n0_; have HB := n1_; clear n0_ n1_; (try clear hb); (try clear hb2); (try clear hk); (try clear hi); (try clear ho0); obtain ⟨Ao17, co17, eo17⟩ := Kd.R_slice HO104.out; subst eo17) | ((with_reducible refine gate_callee (f := 85) rfl ?_); refine gl_ (some 13) Tryz.func85 #[.slice Ao17 t102.length co17] ?_; (with_reducible refine (market_first.calls k _ _ t102 t105 _ ?side1 ?side2 A5.out).mono ?_); (case side1 => repeat (first | exact (Kd.R_reads' HO104.out).2.2 | (with_reducible refine Kd.C_alloc ?_ _) | (with_reducible refine Kd.C_drewN ?_ _) | (with_reducible refine Kd.C_drew ?_))); (case side2 => exact (Kd.R_reads' HO104.out).2.1); rintro e w' ⟨rfl, ⟨nd, rfl⟩⟩; refine ⟨_, rfl, ?_⟩) | ((with_reducible refine gate_callee (f := 101) rfl ?_); refine gl_ (some 15) Tryz.func101 #[.int .i64 a1] ?_; (with_reducible refine (market_checkTotal.calls a1 t106 _ A6.out).mono ?_); rintro e w' ⟨rfl, ⟨nd, rfl⟩⟩; refine ⟨_, rfl, ?_⟩) | ((with_reducible refine gate_dst (N := 16) rfl ?_); refine Kd.R_lit (Kd.int .i64) _ 28 ?hg (N := 16) ?hd (xs := ([t101, t105, t106] : List Int)) (inner := [.int .i64 t101, .int .i64 t105, .int .i64 t106]) (ok := fun _ => True) (okp := fun _ => True) ?hr ?hp (fun _ hk => hk) trivial (Below.refl _ _) (Nat.le_refl _) (by simp) ?_; (case hd => rfl); (case hg => rfl); (case hr => first | (go_simp; done) | (go_simp; rfl)); (case hp => exact (Reps.one (show Kd.M (Kd.int .i64) _ _ _ t101 [.int .i64 t101] from rfl) (Reps.one (show Kd.M (Kd.int .i64) _ _ _ t105 [.int .i64 t105] from rfl) (Reps.one (show Kd.M (Kd.int .i64) _ _ _ t106 [.int .i64 t106] from rfl) (Reps.none _ _))))); intro v108 w18 ho19 hb hg_ hnew_; clear hg_ hnew_; (first | rw [← Ny107.out] at ho19 | (simp only [Int.reduceToNat] at ho19; rw [← Ny107.out] at ho19)); have n0_ := Aside0.mk (Kd.R_elder' (rs_ HO104.out) (Kd.R_base ho19) hb); have n1_ := Aside0.mk (Kd.R_lower (Kd.R_new' ho19 (Kd.R_lt (rs_ HO104.out))) (below_size (ws_ HB.out))); have n2_ := Aside0.mk (below_step (ws_ HB.out) hb); clear HO104; clear HB; have HO104 := n0_; have HO109 := n1_; have HB := n2_; clear n0_ n1_ n2_; clear hb ho19; obtain ⟨Ao20, co20, eo20⟩ := Kd.R_slice HO109.out; subst eo20) | ((with_reducible refine gate_callee (f := 85) rfl ?_); refine gl_ (some 17) Tryz.func85 #[.slice Ao20 y107.length co20] ?_; (with_reducible refine (market_first.calls k _ _ y107 t110 _ ?side1 ?side2 A7.out).mono ?_); (case side1 => repeat (first | exact (Kd.R_reads' HO109.out).2.2 | (with_reducible refine Kd.C_alloc ?_ _) | (with_reducible refine Kd.C_drewN ?_ _) | (with_reducible refine Kd.C_drew ?_))); (case side2 => exact (Kd.R_reads' HO109.out).2.1); rintro e w' ⟨rfl, ⟨nd, rfl⟩⟩; refine ⟨_, rfl, ?_⟩))
  go_ret2
  exact ⟨_, by first | rfl | (simp [errW_none, errW_some] <;> rfl) | (simp [*, errW_none, errW_some] <;> rfl), by first | exact Kd.R_nil _ _ _ _ _ | exact Kd.N_nil _ _ _ _ _ | exact Kd.V_nil _ _ _ _ _ | exact Kd.Q_nil _ _ _ _ _ | exact Kd.S_nil _ _ _ _ _, by repeat (first | (with_reducible first | exact HB.out | apply below_alloc | apply pw_below_drewN | apply below_drew1) | exact HB.out)⟩
/-! ### nacelleref08_Outside: function 89 -/
def nacelleref08_Outside.f (a0 : Int) (a1 : Int) (a2 : Int) : Option (Bool) := if a0 < a1 then (some true) else (some (decide (a0 > a2)))
set_option maxHeartbeats 8000000 in
set_option maxRecDepth 100000 in
theorem nacelleref08_Outside.calls (a0 : Int) (a1 : Int) (a2 : Int) (r : Bool) (w : World) (h : nacelleref08_Outside.f a0 a1 a2 = some r) :
  Calls Tryz.prog 89 #[.int .i64 a0, .int .i64 a1, .int .i64 a2] w fun e w' => e = .returned (.bool r) ∧ Drawn0 w w' := by
 have H : (if a0 < a1 then (some true) else (some (decide (a0 > a2)))) = some r := h
 clear h
 by_cases c4 : a0 < a1
 ·rw [if_pos c4] at H
  have c4b0 : decide (a0 < a1) = true := decide_eq_true c4
  clear c4
  obtain rfl := Option.some.inj H
  go_enter Tryz.func89, Tryz.ntmps89
  go_wp2
  go_ret
  exact ⟨by first | rfl | (simp; done) | (simp [*]; done), by repeat (first | exact Drawn0.refl _ | apply Drawn0.step)⟩
 ·rw [if_neg c4] at H
  have c4b0 : decide (a0 < a1) = false := decide_eq_false c4
  clear c4
  obtain rfl := Option.some.inj H
  go_enter Tryz.func89, Tryz.ntmps89
  go_wp2
  go_ret
  exact ⟨by first | rfl | (simp; done) | (simp [*]; done), by repeat (first | exact Drawn0.refl _ | apply Drawn0.step)⟩
/-! ### nacelleref08_CheckEach: function 37 -/
def nacelleref08_CheckEach.l0 : Nat → List Int → Int → Int → Option (Int)
 | 0, _, _, _ => none
 | k + 1, x0, x2, x7 => if x7 < (x0.length : Int) then (if 0 ≤ x7 then ((nacelleref08_Outside.f (rd x0 x7) 0 x2).bind fun t102 => (if t102 = true then (some 3) else (nacelleref08_CheckEach.l0 k x0 x2 (wrap64 (x7 + 1))))) else (none)) else (some 0)
def nacelleref08_CheckEach.f (k : Nat) (l0 : List Int) (a1 : Int) (a2 : Int) : Option (Int) := if (l0.length : Int) > a1 then (some 5) else (nacelleref08_CheckEach.l0 k l0 a2 0)
set_option maxHeartbeats 8000000 in
set_option maxRecDepth 100000 in
theorem nacelleref08_CheckEach.calls (k : Nat) (A0 : Option Addr) (c0 : Nat) (l0 : List Int) (a1 : Int) (a2 : Int) (r : Int) (w : World) (hr0 : Kd.C (Kd.int .i64) w A0 l0.length l0) (hc0 : l0.length ≤ c0) (h : nacelleref08_CheckEach.f k l0 a1 a2 = some r) :
  Calls Tryz.prog 37 #[.slice A0 l0.length c0, .int .i64 a1, .int .i64 a2] w fun e w' => e = .returned (.int .i64 r) ∧ Drawn0 w w' := by
 have HR0 := Aside0.mk hr0
 have HC0 := Aside0.mk hc0
 clear hr0 hc0
 have H : (if (l0.length : Int) > a1 then (some 5) else (nacelleref08_CheckEach.l0 k l0 a2 0)) = some r := h
 clear h
 by_cases c4 : (l0.length : Int) > a1
 ·rw [if_pos c4] at H
  have c4b0 : decide (a1 < (l0.length : Int)) = true := decide_eq_true c4
  clear c4
  obtain rfl := Option.some.inj H
  go_enter Tryz.func37, Tryz.ntmps37
  go_wp2
  go_ret
  exact ⟨by first | rfl | (simp; done) | (simp [*]; done), by repeat (first | exact Drawn0.refl _ | apply Drawn0.step)⟩
 ·rw [if_neg c4] at H
  have c4b0 : decide (a1 < (l0.length : Int)) = false := decide_eq_false c4
  clear c4
  have H' := Aside0.mk H
  clear H
  go_enter Tryz.func37, Tryz.ntmps37
  go_wp2
  go_loopg [7] k (fun kq v7 w' => ∃ (x7_1 : Int), v7 = .int .i64 x7_1 ∧ Aside0 (nacelleref08_CheckEach.l0 kq l0 a2 x7_1 = some r) ∧ Aside0 (kq ≤ k) ∧ Drawn0 w w')
  case atStart => exact ⟨(0), (by first | rfl | (simp; done) | (simp [*]; done)), H', ⟨Nat.le_refl _⟩, by repeat (first | exact Drawn0.refl _ | apply Drawn0.step)⟩
  case round =>
   clear H'
   try clear p2
   try clear c3
   try clear c4
   try clear c4b0
   obtain ⟨x7_1, rfl, HA, HK1, ⟨m1, rfl⟩⟩ := hrel
   cases gk with
   | zero => exact absurd HA.out (by simp [nacelleref08_CheckEach.l0])
   | succ k1 =>
    have H := HA.out
    clear HA
    simp only [nacelleref08_CheckEach.l0] at H
    by_cases c5 : x7_1 < (l0.length : Int)
    ·rw [if_pos c5] at H
     have c5b0 : decide (x7_1 < (l0.length : Int)) = true := decide_eq_true c5
     clear c5
     by_cases c6 : 0 ≤ x7_1
     ·rw [if_pos c6] at H
      have c6b0 : decide (0 ≤ x7_1) = true := decide_eq_true c6
      clear c6
      replace H := Option.bind_eq_some_iff.mp H
      obtain ⟨t102, A70, H⟩ := H
      replace H : (if t102 = true then (some 3) else (nacelleref08_CheckEach.l0 k1 l0 a2 (wrap64 (x7_1 + 1)))) = some r := H
      have A7 := Aside0.mk A70
      clear A70
      by_cases c8 : t102 = true
      ·subst c8
       have H1 : (some 3) = some r := by rw [if_pos rfl] at H; exact H
       clear H
       have H := H1
       clear H1
       obtain rfl := Option.some.inj H
       have p101 : 0 ≤ (x7_1 : Int) := of_decide_eq_true (by first | (with_reducible assumption) | assumption)
       have q101 : x7_1 < (l0.length : Int) := of_decide_eq_true (by first | (with_reducible assumption) | assumption)
       obtain ⟨ad101, e101, hx101_0⟩ := Kd.at_int HR0.out x7_1 p101 q101
       cases e101
       replace p101 := eq_true p101
       replace q101 := eq_true q101
       go_wp2_with (first | ((with_reducible refine gate_callee (f := 89) rfl ?_); refine gl_ (some 23) Tryz.func89 #[.int .i64 (rd l0 x7_1), .int .i64 0, .int .i64 a2] ?_; (with_reducible refine (nacelleref08_Outside.calls (rd l0 x7_1) 0 a2 true _ A7.out).mono ?_); rintro e w' ⟨rfl, ⟨nd, rfl⟩⟩; refine ⟨_, rfl, ?_⟩))
       go_ret
       exact ⟨by first | rfl | (simp; done) | (simp [*]; done), by repeat (first | exact Drawn0.refl _ | apply Drawn0.step)⟩
      ·replace c8 := Bool.eq_false_iff.mpr c8
       subst c8
       have H1 : (nacelleref08_CheckEach.l0 k1 l0 a2 (wrap64 (x7_1 + 1))) = some r := by rw [if_neg (show ¬ (false = true) by decide)] at H; exact H
       clear H
       have H := H1
       clear H1
       have H' := Aside0.mk H
       clear H
       have p101 : 0 ≤ (x7_1 : Int) := of_decide_eq_true (by first | (with_reducible assumption) | assumption)
       have q101 : x7_1 < (l0.length : Int) := of_decide_eq_true (by first | (with_reducible assumption) | assumption)
       obtain ⟨ad101, e101, hx101_0⟩ := Kd.at_int HR0.out x7_1 p101 q101
       cases e101
       replace p101 := eq_true p101
       replace q101 := eq_true q101
       go_wp2_with (first | ((with_reducible refine gate_callee (f := 89) rfl ?_); refine gl_ (some 23) Tryz.func89 #[.int .i64 (rd l0 x7_1), .int .i64 0, .int .i64 a2] ?_; (with_reducible refine (nacelleref08_Outside.calls (rd l0 x7_1) 0 a2 false _ A7.out).mono ?_); rintro e w' ⟨rfl, ⟨nd, rfl⟩⟩; refine ⟨_, rfl, ?_⟩))
       go_roundg k1
       case measure => have := HK1.out; omega
       case rel => exact ⟨(wrap64 (x7_1 + 1)), (by first | rfl | (simp; done) | (simp [*]; done)), H', ⟨by have := HK1.out; omega⟩, by repeat (first | exact Drawn0.refl _ | apply Drawn0.step)⟩
     ·rw [if_neg c6] at H
      exact absurd H (by simp)
    ·rw [if_neg c5] at H
     have c5b0 : decide (x7_1 < (l0.length : Int)) = false := decide_eq_false c5
     clear c5
     obtain rfl := Option.some.inj H
     go_wp2
     go_ret
     exact ⟨by first | rfl | (simp; done) | (simp [*]; done), by repeat (first | exact Drawn0.refl _ | apply Drawn0.step)⟩
/-! ### nacelleref08_total: function 103 -/
def nacelleref08_total.l0 : Nat → List Int → Int → Int → Option (Int)
 | 0, _, _, _ => none
 | k + 1, x0, x3, x4 => if x4 < (x0.length : Int) then (if 0 ≤ x4 then (nacelleref08_total.l0 k x0 (wrap64 (x3 + (rd x0 x4))) (wrap64 (x4 + 1))) else (none)) else (some x3)
def nacelleref08_total.f (k : Nat) (l0 : List Int) : Option (Int) := nacelleref08_total.l0 k l0 0 0
set_option maxHeartbeats 8000000 in
set_option maxRecDepth 100000 in
theorem nacelleref08_total.calls (k : Nat) (A0 : Option Addr) (c0 : Nat) (l0 : List Int) (r : Int) (w : World) (hr0 : Kd.C (Kd.int .i64) w A0 l0.length l0) (hc0 : l0.length ≤ c0) (h : nacelleref08_total.f k l0 = some r) :
  Calls Tryz.prog 103 #[.slice A0 l0.length c0] w fun e w' => e = .returned (.int .i64 r) ∧ Drawn0 w w' := by
 have HR0 := Aside0.mk hr0
 have HC0 := Aside0.mk hc0
 clear hr0 hc0
 have H : (nacelleref08_total.l0 k l0 0 0) = some r := h
 clear h
 have H' := Aside0.mk H
 clear H
 go_enter Tryz.func103, Tryz.ntmps103
 go_wp2
 go_loopg [3, 4] k (fun kq v3 v4 w' => ∃ (x3_1 : Int) (x4_1 : Int), v3 = .int .i64 x3_1 ∧ v4 = .int .i64 x4_1 ∧ Aside0 (nacelleref08_total.l0 kq l0 x3_1 x4_1 = some r) ∧ Aside0 (kq ≤ k) ∧ Drawn0 w w')
 case atStart => exact ⟨(0), (0), (by first | rfl | (simp; done) | (simp [*]; done)), (by first | rfl | (simp; done) | (simp [*]; done)), H', ⟨Nat.le_refl _⟩, by repeat (first | exact Drawn0.refl _ | apply Drawn0.step)⟩
 case round =>
  clear H'
  try clear c1
  obtain ⟨x3_1, x4_1, rfl, rfl, HA, HK1, ⟨m1, rfl⟩⟩ := hrel
  cases gk with
  | zero => exact absurd HA.out (by simp [nacelleref08_total.l0])
  | succ k1 =>
   have H := HA.out
   clear HA
   simp only [nacelleref08_total.l0] at H
   by_cases c2 : x4_1 < (l0.length : Int)
   ·rw [if_pos c2] at H
    have c2b0 : decide (x4_1 < (l0.length : Int)) = true := decide_eq_true c2
    clear c2
    by_cases c3 : 0 ≤ x4_1
    ·rw [if_pos c3] at H
     have c3b0 : decide (0 ≤ x4_1) = true := decide_eq_true c3
     clear c3
     have H' := Aside0.mk H
     clear H
     have p101 : 0 ≤ (x4_1 : Int) := of_decide_eq_true (by first | (with_reducible assumption) | assumption)
     have q101 : x4_1 < (l0.length : Int) := of_decide_eq_true (by first | (with_reducible assumption) | assumption)
     obtain ⟨ad101, e101, hx101_0⟩ := Kd.at_int HR0.out x4_1 p101 q101
     cases e101
     replace p101 := eq_true p101
     replace q101 := eq_true q101
     go_wp2
     go_roundg k1
     case measure => have := HK1.out; omega
     case rel => exact ⟨(wrap64 (x3_1 + (rd l0 x4_1))), (wrap64 (x4_1 + 1)), (by first | rfl | (simp; done) | (simp [*]; done)), (by first | rfl | (simp; done) | (simp [*]; done)), H', ⟨by have := HK1.out; omega⟩, by repeat (first | exact Drawn0.refl _ | apply Drawn0.step)⟩
    ·rw [if_neg c3] at H
     exact absurd H (by simp)
   ·rw [if_neg c2] at H
    have c2b0 : decide (x4_1 < (l0.length : Int)) = false := decide_eq_false c2
    clear c2
    obtain rfl := Option.some.inj H
    go_wp2
    go_ret
    exact ⟨by first | rfl | (simp; done) | (simp [*]; done), by repeat (first | exact Drawn0.refl _ | apply Drawn0.step)⟩
/-! ### nacelleref08_Curtail: function 38 -/
mutual
def nacelleref08_Curtail.l0 : Nat → List Int → Int → List Int → Int → Int → Option (List Int)
 | 0, _, _, _, _, _ => none
 | k + 1, x0, x1, x5, x6, x7 => if x7 < (x0.length : Int) then (if 0 ≤ x7 then (if x6 = 0 then (none) else (if x7 < (x5.length : Int) then (nacelleref08_Curtail.l0 k x0 x1 (x5.set (x7 : Int).toNat (wrap64 (Int.tdiv (wrap64 ((rd x0 x7) * x1)) x6))) x6 (wrap64 (x7 + 1))) else (none))) else (none)) else (if 0 ≤ (x0.length : Int) then (if ((x0.length : Int) : Int).toNat ≤ 281474976710656 then ((nacelleref08_total.f k x5).bind fun t113 => (nacelleref08_Curtail.l1 k x0 x1 x5 x6 (List.replicate ((x0.length : Int) : Int).toNat false) (wrap64 (x1 - t113)))) else (none)) else (none))
def nacelleref08_Curtail.l1 : Nat → List Int → Int → List Int → Int → List Bool → Int → Option (List Int)
 | 0, _, _, _, _, _, _ => none
 | k + 1, x0, x1, x5, x6, x8, x9 => if x9 > 0 then (nacelleref08_Curtail.l2 k x0 x1 x5 x6 x8 x9 (-1) 0) else (some x5)
def nacelleref08_Curtail.l2 : Nat → List Int → Int → List Int → Int → List Bool → Int → Int → Int → Option (List Int)
 | 0, _, _, _, _, _, _, _, _ => none
 | k + 1, x0, x1, x5, x6, x8, x9, x10, x11 => if x11 < (x0.length : Int) then (if 0 ≤ x11 then (if x11 < (x8.length : Int) then (if rdOf false x8 x11 = true then (nacelleref08_Curtail.l2 k x0 x1 x5 x6 x8 x9 x10 (wrap64 (x11 + 1))) else (if x10 < 0 then (nacelleref08_Curtail.l2 k x0 x1 x5 x6 x8 x9 x11 (wrap64 (x11 + 1))) else (if x6 = 0 then (none) else (if 0 ≤ x10 then (if x10 < (x0.length : Int) then (if (Int.tmod (wrap64 ((rd x0 x11) * x1)) x6) > (Int.tmod (wrap64 ((rd x0 x10) * x1)) x6) then (nacelleref08_Curtail.l2 k x0 x1 x5 x6 x8 x9 x11 (wrap64 (x11 + 1))) else (nacelleref08_Curtail.l2 k x0 x1 x5 x6 x8 x9 x10 (wrap64 (x11 + 1)))) else (none)) else (none))))) else (none)) else (none)) else (if 0 ≤ x10 then (if x10 < (x8.length : Int) then (if x10 < (x5.length : Int) then (nacelleref08_Curtail.l1 k x0 x1 (x5.set (x10 : Int).toNat (wrap64 ((rd x5 x10) + 1))) x6 (x8.set (x10 : Int).toNat true) (wrap64 (x9 - 1))) else (none)) else (none)) else (none))
end
def nacelleref08_Curtail.f (k : Nat) (l0 : List Int) (a1 : Int) : Option (List Int) := (some (([] : List Int) : List Int)).bind fun y101 => (if y101.length + l0.length < 17592186044416 then ((some (y101 ++ l0 : List Int)).bind fun y104 => ((nacelleref08_total.f k l0).bind fun t107 => (if t107 ≤ a1 then (some y104) else (nacelleref08_Curtail.l0 k l0 a1 y104 t107 0)))) else (none))
set_option maxHeartbeats 8000000 in
set_option maxRecDepth 100000 in
theorem nacelleref08_Curtail.calls (k : Nat) (A0 : Option Addr) (c0 : Nat) (l0 : List Int) (a1 : Int) (r : List Int) (w : World) (hr0 : Kd.C (Kd.int .i64) w A0 l0.length l0) (hc0 : l0.length ≤ c0) (h : nacelleref08_Curtail.f k l0 a1 = some r) :
  Calls Tryz.prog 38 #[.slice A0 l0.length c0, .int .i64 a1] w fun e w' => ∃ v0_ : Value, e = .returned (v0_) ∧ Kd.R (Kd.int .i64) 3 w' w.heap.size (fun _ => True) v0_ r ∧ Below w.heap.size w w' := by
 have HR0 := Aside0.mk hr0
 have HC0 := Aside0.mk hc0
 clear hr0 hc0
 have HB := Aside0.mk (Below.refl w.heap.size w)
 have H : ((some (([] : List Int) : List Int)).bind fun y101 => (if y101.length + l0.length < 17592186044416 then ((some (y101 ++ l0 : List Int)).bind fun y104 => ((nacelleref08_total.f k l0).bind fun t107 => (if t107 ≤ a1 then (some y104) else (nacelleref08_Curtail.l0 k l0 a1 y104 t107 0)))) else (none))) = some r := h
 clear h
 obtain ⟨y101, hy101⟩ : ∃ y_ : List Int, y_ = (([] : List Int)) := ⟨_, rfl⟩
 replace H : (if y101.length + l0.length < 17592186044416 then ((some (y101 ++ l0 : List Int)).bind fun y104 => ((nacelleref08_total.f k l0).bind fun t107 => (if t107 ≤ a1 then (some y104) else (nacelleref08_Curtail.l0 k l0 a1 y104 t107 0)))) else (none)) = some r := by first | (rw [hy101]; with_reducible exact H) | (have H2_ := (Option.bind_some _ _).symm.trans H; rw [hy101]; with_reducible exact H2_) | (have H2_ := (Option.bind_some _ _).symm.trans H; with_reducible exact H2_) | with_reducible exact H | (rw [hy101]; exact H) | exact H
 have Ny101 := Aside0.mk hy101
 clear hy101
 by_cases c3 : y101.length + l0.length < 17592186044416
 ·rw [if_pos c3] at H
  have LMc3 := Aside0.mk c3
  clear c3
  obtain ⟨y104, hy104⟩ : ∃ y_ : List Int, y_ = (y101 ++ l0) := ⟨_, rfl⟩
  replace H : ((nacelleref08_total.f k l0).bind fun t107 => (if t107 ≤ a1 then (some y104) else (nacelleref08_Curtail.l0 k l0 a1 y104 t107 0))) = some r := by first | (rw [hy104]; with_reducible exact H) | (have H2_ := (Option.bind_some _ _).symm.trans H; rw [hy104]; with_reducible exact H2_) | (have H2_ := (Option.bind_some _ _).symm.trans H; with_reducible exact H2_) | with_reducible exact H | (rw [hy104]; exact H) | exact H
  have Ny104 := Aside0.mk hy104
  clear hy104
  replace H := Option.bind_eq_some_iff.mp H
  obtain ⟨t107, A40, H⟩ := H
  replace H : (if t107 ≤ a1 then (some y104) else (nacelleref08_Curtail.l0 k l0 a1 y104 t107 0)) = some r := H
  have A4 := Aside0.mk A40
  clear A40
  by_cases c5 : t107 ≤ a1
  ·rw [if_pos c5] at H
   have c5b0 : decide (t107 ≤ a1) = true := decide_eq_true c5
   clear c5
   obtain rfl := Option.some.inj H
   go_enter Tryz.func38, Tryz.ntmps38
   go_wp2_with (first | ((with_reducible refine gate_dst (N := 12) rfl ?_); refine Kd.R_lit (Kd.int .i64) _ 3 ?hg (N := 12) ?hd (xs := ([] : List Int)) (inner := []) (ok := fun _ => True) (okp := fun _ => True) ?hr ?hp (fun _ hk => hk) trivial (Below.refl _ _) (Nat.le_refl _) (by simp) ?_; (case hd => rfl); (case hg => rfl); (case hr => first | (go_simp; done) | (go_simp; rfl)); (case hp => exact (Reps.none _ _)); intro v102 w6 ho7 hb hg_ hnew_; clear hg_ hnew_; (first | rw [← Ny101.out] at ho7 | (simp only [Int.reduceToNat] at ho7; rw [← Ny101.out] at ho7)); have n0_ := Aside0.mk (Kd.R_lower ho7 (below_size (ws_ HB.out))); have n1_ := Aside0.mk (below_step (ws_ HB.out) hb); clear HB; have HO103 := n0_; have HB := n1_; clear n0_ n1_; clear hb ho7) | ((with_reducible refine gate_builtin (b := .append) (xs := #[.tmp 12, .tmp 13]) rfl ?_); at_builtin; refine Kd.R_append_rows (Kd.int .i64) (w0 := w) w.heap.size rfl (.tmp 12) (.tmp 13) 52 3 (.int .i64 0) 8 rfl Tryz.underlying52 info3 rfl (by decide) (by omega) v102 y101 l0 _ _ _ (fun _ => True) (fun _ => False) rfl rfl ?aO ?aR (fun _ _ h => h) (fun _ h => h.elim) ?aF ?aB ?aS ?aL ?_; (case aR => exact cs_ (Kd.C_below HR0.out HB.out)); (case aB => exact (ws_ HB.out)); (case aF => exact (fun _ _ => trivial)); (case aO => exact (rs_ HO103.out)); (case aS => exact (below_size (ws_ HB.out))); (case aL => have := LMc3.out; omega); intro v105 w8 ho hb hg hat; rw [← Ny104.out] at ho; have n0_ := Aside0.mk (hb); have n1_ := Aside0.mk (ho); clear HB; clear HO103; have HB := n0_; have HO106 := n1_; clear n0_ n1_; clear ho hb hg hat) | (go_at_call 103; (with_reducible refine (nacelleref08_total.calls k _ _ l0 t107 _ ?side1 ?side2 A4.out).mono ?_); (case side1 => exact cs_ (Kd.C_below HR0.out HB.out)); (case side2 => exact HC0.out); rintro e w' ⟨rfl, ⟨nd, rfl⟩⟩; (try first | exact ⟨rfl, _, World.drewN_drewN _ _ _⟩ | exact ⟨rfl, _, Eq.trans (World.drewN_drewN _ _ _) (congrArg (World.drewN _) (Nat.add_assoc _ _ _))⟩)))
   repeat (go_quiet (first | ((with_reducible refine gate_dst (N := 12) rfl ?_); refine Kd.R_lit (Kd.int .i64) _ 3 ?hg (N := 12) ?hd (xs := ([] : List Int)) (inner := []) (ok := fun _ => True) (okp := fun _ => True) ?hr ?hp (fun _ hk => hk) trivial (Below.refl _ _) (Nat.le_refl _) (by simp) ?_; (case hd => rfl); (case hg => rfl); (case hr => first | (go_simp; done) | (go_simp; rfl)); (case hp => exact (Reps.none _ _)); intro v102 w6 ho7 hb hg_ hnew_; clear hg_ hnew_; (first | rw [← Ny101.out] at ho7 | (simp only [Int.reduceToNat] at ho7; rw [← Ny101.out] at ho7)); have n0_ := Aside0.mk (Kd.R_lower ho7 (below_size (ws_ HB.out))); have n1_ := Aside0.mk (below_step (ws_ HB.out) hb); clear HB; have HO103 := n0_; have HB := n1_; clear n0_ n1_; clear hb ho7) | ((with_reducible refine gate_builtin (b := .append) (xs := #[.tmp 12, .tmp 13]) rfl ?_); at_builtin; refine Kd.R_append_rows (Kd.int .i64) (w0 := w) w.heap.size rfl (.tmp 12) (.tmp 13) 52 3 (.int .i64 0) 8 rfl Tryz.underlying52 info3 rfl (by decide) (by omega) v102 y101 l0 _ _ _ (fun _ => True) (fun _ => False) rfl rfl ?aO ?aR (fun _ _ h => h) (fun _ h => h.elim) ?aF ?aB ?aS ?aL ?_; (case aR => exact cs_ (Kd.C_below HR0.out HB.out)); (case aB => exact (ws_ HB.out)); (case aF => exact (fun _ _ => trivial)); (case aO => exact (rs_ HO103.out)); (case aS => exact (below_size (ws_ HB.out))); (case aL => have := LMc3.out; omega); intro v105 w8 ho hb hg hat; rw [← Ny104.out] at ho; have n0_ := Aside0.mk (hb); have n1_ := Aside0.mk (ho); clear HB; clear HO103; have HB := n0_; have HO106 := n1_; clear n0_ n1_; clear ho hb hg hat) | (go_at_call 103; (with_reducible refine (nacelleref08_total.calls k _ _ l0 t107 _ ?side1 ?side2 A4.out).mono ?_); (case side1 => exact cs_ (Kd.C_below HR0.out HB.out)); (case side2 => exact HC0.out); rintro e w' ⟨rfl, ⟨nd, rfl⟩⟩; (try first | exact ⟨rfl, _, World.drewN_drewN _ _ _⟩ | exact ⟨rfl, _, Eq.trans (World.drewN_drewN _ _ _) (congrArg (World.drewN _) (Nat.add_assoc _ _ _))⟩))); try go_wp2_with (first | ((with_reducible refine gate_dst (N := 12) rfl ?_); refine Kd.R_lit (Kd.int .i64) _ 3 ?hg (N := 12) ?hd (xs := ([] : List Int)) (inner := []) (ok := fun _ => True) (okp := fun _ => True) ?hr ?hp (fun _ hk => hk) trivial (Below.refl _ _) (Nat.le_refl _) (by simp) ?_; (case hd => rfl); (case hg => rfl); (case hr => first | (go_simp; done) | (go_simp; rfl)); (case hp => exact (Reps.none _ _)); intro v102 w6 ho7 hb hg_ hnew_; clear hg_ hnew_; (first | rw [← Ny101.out] at ho7 | (simp only [Int.reduceToNat] at ho7; rw [← Ny101.out] at ho7)); have n0_ := Aside0.mk (Kd.R_lower ho7 (below_size (ws_ HB.out))); have n1_ := Aside0.mk (below_step (ws_ HB.out) hb); clear HB; have HO103 := n0_; have HB := n1_; clear n0_ n1_; clear hb ho7) | ((with_reducible refine gate_builtin (b := .append) (xs := #[.tmp 12, .tmp 13]) rfl ?_); at_builtin; refine Kd.R_append_rows (Kd.int .i64) (w0 := w) w.heap.size rfl (.tmp 12) (.tmp 13) 52 3 (.int .i64 0) 8 rfl Tryz.underlying52 info3 rfl (by decide) (by omega) v102 y101 l0 _ _ _ (fun _ => True) (fun _ => False) rfl rfl ?aO ?aR (fun _ _ h => h) (fun _ h => h.elim) ?aF ?aB ?aS ?aL ?_; (case aR => exact cs_ (Kd.C_below HR0.out HB.out)); (case aB => exact (ws_ HB.out)); (case aF => exact (fun _ _ => trivial)); (case aO => exact (rs_ HO103.out)); (case aS => exact (below_size (ws_ HB.out))); (case aL => have := LMc3.out; omega); intro v105 w8 ho hb hg hat; rw [← Ny104.out] at ho; have n0_ := Aside0.mk (hb); have n1_ := Aside0.mk (ho); clear HB; clear HO103; have HB := n0_; have HO106 := n1_; clear n0_ n1_; clear ho hb hg hat) | (go_at_call 103; (with_reducible refine (nacelleref08_total.calls k _ _ l0 t107 _ ?side1 ?side2 A4.out).mono ?_); (case side1 => exact cs_ (Kd.C_below HR0.out HB.out)); (case side2 => exact HC0.out); rintro e w' ⟨rfl, ⟨nd, rfl⟩⟩; (try first | exact ⟨rfl, _, World.drewN_drewN _ _ _⟩ | exact ⟨rfl, _, Eq.trans (World.drewN_drewN _ _ _) (congrArg (World.drewN _) (Nat.add_assoc _ _ _))⟩))))
   go_ret
   exact ⟨_, by first | rfl | (simp [errW_none, errW_some] <;> rfl) | (simp [*, errW_none, errW_some] <;> rfl), by (with_reducible repeat (first | apply Kd.R_alloc | apply Kd.R_drewN | apply Kd.R_drew)); exact HO106.out, by repeat (first | (with_reducible first | exact HB.out | apply below_alloc | apply pw_below_drewN | apply below_drew1) | exact HB.out)⟩
  ·rw [if_neg c5] at H
   have c5b0 : decide (t107 ≤ a1) = false := decide_eq_false c5
   clear c5
   have H' := Aside0.mk H
   clear H
   go_enter Tryz.func38, Tryz.ntmps38
   go_wp2_with (first | ((with_reducible refine gate_dst (N := 12) rfl ?_); refine Kd.R_lit (Kd.int .i64) _ 3 ?hg (N := 12) ?hd (xs := ([] : List Int)) (inner := []) (ok := fun _ => True) (okp := fun _ => True) ?hr ?hp (fun _ hk => hk) trivial (Below.refl _ _) (Nat.le_refl _) (by simp) ?_; (case hd => rfl); (case hg => rfl); (case hr => first | (go_simp; done) | (go_simp; rfl)); (case hp => exact (Reps.none _ _)); intro v102 w9 ho10 hb hg_ hnew_; clear hg_ hnew_; (first | rw [← Ny101.out] at ho10 | (simp only [Int.reduceToNat] at ho10; rw [← Ny101.out] at ho10)); have n0_ := Aside0.mk (Kd.R_lower ho10 (below_size (ws_ HB.out))); have n1_ := Aside0.mk (below_step (ws_ HB.out) hb); clear HB; have HO103 := n0_; have HB := n1_; clear n0_ n1_; clear hb ho10) | ((with_reducible refine gate_builtin (b := .append) (xs := #[.tmp 12, .tmp 13]) rfl ?_); at_builtin; refine Kd.R_append_rows (Kd.int .i64) (w0 := w) w.heap.size rfl (.tmp 12) (.tmp 13) 52 3 (.int .i64 0) 8 rfl Tryz.underlying52 info3 rfl (by decide) (by omega) v102 y101 l0 _ _ _ (fun _ => True) (fun _ => False) rfl rfl ?aO ?aR (fun _ _ h => h) (fun _ h => h.elim) ?aF ?aB ?aS ?aL ?_; (case aR => exact cs_ (Kd.C_below HR0.out HB.out)); (case aB => exact (ws_ HB.out)); (case aF => exact (fun _ _ => trivial)); (case aO => exact (rs_ HO103.out)); (case aS => exact (below_size (ws_ HB.out))); (case aL => have := LMc3.out; omega); intro v105 w11 ho hb hg hat; rw [← Ny104.out] at ho; have n0_ := Aside0.mk (hb); have n1_ := Aside0.mk (ho); clear HB; clear HO103; have HB := n0_; have HO106 := n1_; clear n0_ n1_; clear ho hb hg hat) | (go_at_call 103; (with_reducible refine (nacelleref08_total.calls k _ _ l0 t107 _ ?side1 ?side2 A4.out).mono ?_); (case side1 => exact cs_ (Kd.C_below HR0.out HB.out)); (case side2 => exact HC0.out); rintro e w' ⟨rfl, ⟨nd, rfl⟩⟩; (try first | exact ⟨rfl, _, World.drewN_drewN _ _ _⟩ | exact ⟨rfl, _, Eq.trans (World.drewN_drewN _ _ _) (congrArg (World.drewN _) (Nat.add_assoc _ _ _))⟩)))
   repeat (go_quiet (first | ((with_reducible refine gate_dst (N := 12) rfl ?_); refine Kd.R_lit (Kd.int .i64) _ 3 ?hg (N := 12) ?hd (xs := ([] : List Int)) (inner := []) (ok := fun _ => True) (okp := fun _ => True) ?hr ?hp (fun _ hk => hk) trivial (Below.refl _ _) (Nat.le_refl _) (by simp) ?_; (case hd => rfl); (case hg => rfl); (case hr => first | (go_simp; done) | (go_simp; rfl)); (case hp => exact (Reps.none _ _)); intro v102 w9 ho10 hb hg_ hnew_; clear hg_ hnew_; (first | rw [← Ny101.out] at ho10 | (simp only [Int.reduceToNat] at ho10; rw [← Ny101.out] at ho10)); have n0_ := Aside0.mk (Kd.R_lower ho10 (below_size (ws_ HB.out))); have n1_ := Aside0.mk (below_step (ws_ HB.out) hb); clear HB; have HO103 := n0_; have HB := n1_; clear n0_ n1_; clear hb ho10) | ((with_reducible refine gate_builtin (b := .append) (xs := #[.tmp 12, .tmp 13]) rfl ?_); at_builtin; refine Kd.R_append_rows (Kd.int .i64) (w0 := w) w.heap.size rfl (.tmp 12) (.tmp 13) 52 3 (.int .i64 0) 8 rfl Tryz.underlying52 info3 rfl (by decide) (by omega) v102 y101 l0 _ _ _ (fun _ => True) (fun _ => False) rfl rfl ?aO ?aR (fun _ _ h => h) (fun _ h => h.elim) ?aF ?aB ?aS ?aL ?_; (case aR => exact cs_ (Kd.C_below HR0.out HB.out)); (case aB => exact (ws_ HB.out)); (case aF => exact (fun _ _ => trivial)); (case aO => exact (rs_ HO103.out)); (case aS => exact (below_size (ws_ HB.out))); (case aL => have := LMc3.out; omega); intro v105 w11 ho hb hg hat; rw [← Ny104.out] at ho; have n0_ := Aside0.mk (hb); have n1_ := Aside0.mk (ho); clear HB; clear HO103; have HB := n0_; have HO106 := n1_; clear n0_ n1_; clear ho hb hg hat) | (go_at_call 103; (with_reducible refine (nacelleref08_total.calls k _ _ l0 t107 _ ?side1 ?side2 A4.out).mono ?_); (case side1 => exact cs_ (Kd.C_below HR0.out HB.out)); (case side2 => exact HC0.out); rintro e w' ⟨rfl, ⟨nd, rfl⟩⟩; (try first | exact ⟨rfl, _, World.drewN_drewN _ _ _⟩ | exact ⟨rfl, _, Eq.trans (World.drewN_drewN _ _ _) (congrArg (World.drewN _) (Nat.add_assoc _ _ _))⟩))); try go_wp2_with (first | ((with_reducible refine gate_dst (N := 12) rfl ?_); refine Kd.R_lit (Kd.int .i64) _ 3 ?hg (N := 12) ?hd (xs := ([] : List Int)) (inner := []) (ok := fun _ => True) (okp := fun _ => True) ?hr ?hp (fun _ hk => hk) trivial (Below.refl _ _) (Nat.le_refl _) (by simp) ?_; (case hd => rfl); (case hg => rfl); (case hr => first | (go_simp; done) | (go_simp; rfl)); (case hp => exact (Reps.none _ _)); intro v102 w9 ho10 hb hg_ hnew_; clear hg_ hnew_; (first | rw [← Ny101.out] at ho10 | (simp only [Int.reduceToNat] at ho10; rw [← Ny101.out] at ho10)); have n0_ := Aside0.mk (Kd.R_lower ho10 (below_size (ws_ HB.out))); have n1_ := Aside0.mk (below_step (ws_ HB.out) hb); clear HB; have HO103 := n0_; have HB := n1_; clear n0_ n1_; clear hb ho10) | ((with_reducible refine gate_builtin (b := .append) (xs := #[.tmp 12, .tmp 13]) rfl ?_); at_builtin; refine Kd.R_append_rows (Kd.int .i64) (w0 := w) w.heap.size rfl (.tmp 12) (.tmp 13) 52 3 (.int .i64 0) 8 rfl Tryz.underlying52 info3 rfl (by decide) (by omega) v102 y101 l0 _ _ _ (fun _ => True) (fun _ => False) rfl rfl ?aO ?aR (fun _ _ h => h) (fun _ h => h.elim) ?aF ?aB ?aS ?aL ?_; (case aR => exact cs_ (Kd.C_below HR0.out HB.out)); (case aB => exact (ws_ HB.out)); (case aF => exact (fun _ _ => trivial)); (case aO => exact (rs_ HO103.out)); (case aS => exact (below_size (ws_ HB.out))); (case aL => have := LMc3.out; omega); intro v105 w11 ho hb hg hat; rw [← Ny104.out] at ho; have n0_ := Aside0.mk (hb); have n1_ := Aside0.mk (ho); clear HB; clear HO103; have HB := n0_; have HO106 := n1_; clear n0_ n1_; clear ho hb hg hat) | (go_at_call 103; (with_reducible refine (nacelleref08_total.calls k _ _ l0 t107 _ ?side1 ?side2 A4.out).mono ?_); (case side1 => exact cs_ (Kd.C_below HR0.out HB.out)); (case side2 => exact HC0.out); rintro e w' ⟨rfl, ⟨nd, rfl⟩⟩; (try first | exact ⟨rfl, _, World.drewN_drewN _ _ _⟩ | exact ⟨rfl, _, Eq.trans (World.drewN_drewN _ _ _) (congrArg (World.drewN _) (Nat.add_assoc _ _ _))⟩))))
   go_loopg [7] k (fun kq v7 w' => ∃ (x5_1 : List Int) (x7_1 : Int), v7 = .int .i64 x7_1 ∧ Aside0 (nacelleref08_Curtail.l0 kq l0 a1 x5_1 t107 x7_1 = some r) ∧ Aside0 (kq ≤ k) ∧ Aside0 (Kd.R (Kd.int .i64) 3 w' w.heap.size (fun _ => True) v105 x5_1) ∧ Aside0 (Below w.heap.size w w'))
   case atStart => exact ⟨(y104), (0), (by first | rfl | (simp; done) | (simp [*]; done)), H', ⟨Nat.le_refl _⟩, ⟨by (with_reducible repeat (first | apply Kd.R_alloc | apply Kd.R_drewN | apply Kd.R_drew)); exact HO106.out⟩, ⟨by repeat (first | (with_reducible first | exact HB.out | apply below_alloc | apply pw_below_drewN | apply below_drew1) | exact HB.out)⟩⟩
   case round =>
    clear H'
    try clear p2
    try clear c3
    try clear c5
    try clear c5b0
    obtain ⟨x5_1, x7_1, rfl, HA, HK1, HO_5, HB⟩ := hrel
    cases gk with
    | zero => exact absurd HA.out (by simp [nacelleref08_Curtail.l0])
    | succ k1 =>
     have H := HA.out
     clear HA
     simp only [nacelleref08_Curtail.l0] at H
     by_cases c12 : x7_1 < (l0.length : Int)
     ·rw [if_pos c12] at H
      have c12b0 : decide (x7_1 < (l0.length : Int)) = true := decide_eq_true c12
      clear c12
      by_cases c13 : 0 ≤ x7_1
      ·rw [if_pos c13] at H
       have c13b0 : decide (0 ≤ x7_1) = true := decide_eq_true c13
       clear c13
       by_cases c14 : t107 = 0
       ·rw [if_pos c14] at H
        exact absurd H (by simp)
       ·rw [if_neg c14] at H
        have c14b0 : (t107 == 0) = false := beq_eq_false_iff_ne.mpr c14
        have c14b1 : (t107 != 0) = true := bne_iff_ne.mpr c14
        by_cases c15 : x7_1 < (x5_1.length : Int)
        ·rw [if_pos c15] at H
         have c15b0 : decide (x7_1 < (x5_1.length : Int)) = true := decide_eq_true c15
         clear c15
         obtain ⟨y109, hy109⟩ : ∃ y_ : List Int, y_ = (x5_1.set (x7_1 : Int).toNat (wrap64 (Int.tdiv (wrap64 ((rd l0 x7_1) * a1)) t107))) := ⟨_, rfl⟩
         replace H : (nacelleref08_Curtail.l0 k1 l0 a1 y109 t107 (wrap64 (x7_1 + 1))) = some r := by first | (rw [hy109]; with_reducible exact H) | (have H2_ := (Option.bind_some _ _).symm.trans H; rw [hy109]; with_reducible exact H2_) | (have H2_ := (Option.bind_some _ _).symm.trans H; with_reducible exact H2_) | with_reducible exact H | (rw [hy109]; exact H) | exact H
         have Ny109 := Aside0.mk hy109
         clear hy109
         have H' := Aside0.mk H
         clear H
         have p108 : 0 ≤ (x7_1 : Int) := of_decide_eq_true (by first | (with_reducible assumption) | assumption)
         have q108 : x7_1 < (l0.length : Int) := of_decide_eq_true (by first | (with_reducible assumption) | assumption)
         obtain ⟨ad108, e108, hx108_0⟩ := Kd.at_int HR0.out x7_1 p108 q108
         cases e108
         replace hx108_0 := (HB.out.cell (World.block_lt_of_cell? w _ hx108_0)).trans hx108_0
         replace p108 := eq_true p108
         replace q108 := eq_true q108
         have p16 : 0 ≤ (x7_1 : Int) := of_decide_eq_true (by first | (with_reducible assumption) | assumption)
         have q16 : (x7_1 : Int) < ((x5_1.length : Int) : Int) := of_decide_eq_true (by first | (with_reducible assumption) | assumption)
         obtain ⟨go16, co16, eo16, gb16, gl16, cl16, HG16⟩ := Kd.R_form HO_5.out (by omega)
         (first | cases eo16 | (injection eo16 with ea_ en_ ec_; (first | subst ea_ | (injection ea_ with ea_; subst ea_)); subst ec_; clear en_))
         have GB16 := Aside0.mk gb16
         have GG16 := Aside0.mk HG16
         clear gb16 gl16 HG16
         obtain ⟨hx16_0, hf16_0⟩ := Kd.R_celln 0 HO_5.out (x7_1 : Int) p16 q16
         replace p16 := eq_true p16
         replace q16 := eq_true q16
         have HP17 := Kd.R_putg HO_5.out (x7_1 : Int) (wrap64 (Int.tdiv (wrap64 ((rd l0 x7_1) * a1)) t107))
         go_wp2_with (first | ((with_reducible refine gate_store (t := 3) (p := 37) rfl ?_); (try (rw [drewN_self wr]; generalize hq_ : World.drewN wr _ = wr; have n0_ := Aside0.mk (Kd.R_at hq_ HO_5.out); have n1_ := Aside0.mk (below_at hq_ HB.out); clear hq_ HO_5 HB; have HO_5 := n0_; have HB := n1_; clear n0_ n1_; (try (have HP17 := Kd.R_putg HO_5.out (x7_1 : Int) (wrap64 (Int.tdiv (wrap64 ((rd l0 x7_1) * a1)) t107)))))); refine store_event (t := 3) (p := 37) (v := ?vo_w18) (w1 := (wr.setCell ⟨go16, (x7_1 : Int).toNat, none⟩ (.int .i64 (wrap64 (Int.tdiv (wrap64 ((rd l0 x7_1) * a1)) t107))))) ?hg ?ho ?hn ?hr ?_; (case ho => rfl); (case hg => rfl); (case hn => rfl); (case hr => first | (go_simp; done) | (go_simp; rfl)); intro w18 hw; have hg : wr.grownBy w18 (some go16) := (by rw [hw]; exact HP17.2); have hp_ : Kd.R (Kd.int .i64) 3 w18 w.heap.size (fun _ => True) (.slice (some ⟨go16, 0, none⟩) x5_1.length co16) y109 := (by rw [hw, Ny109.out]; exact HP17.1); clear HP17; have n0_ := Aside0.mk (hp_); have n1_ := Aside0.mk ((by rw [hw]; exact below_set (HB.out) GB16.out : Below w.heap.size w w18)); clear HO_5; clear HB; have HO_5 := n0_; have HB := n1_; clear n0_ n1_; clear hg hw hp_))
         repeat (go_quiet (first | ((with_reducible refine gate_store (t := 3) (p := 37) rfl ?_); (try (rw [drewN_self wr]; generalize hq_ : World.drewN wr _ = wr; have n0_ := Aside0.mk (Kd.R_at hq_ HO_5.out); have n1_ := Aside0.mk (below_at hq_ HB.out); clear hq_ HO_5 HB; have HO_5 := n0_; have HB := n1_; clear n0_ n1_; (try (have HP17 := Kd.R_putg HO_5.out (x7_1 : Int) (wrap64 (Int.tdiv (wrap64 ((rd l0 x7_1) * a1)) t107)))))); refine store_event (t := 3) (p := 37) (v := ?vo_w18) (w1 := (wr.setCell ⟨go16, (x7_1 : Int).toNat, none⟩ (.int .i64 (wrap64 (Int.tdiv (wrap64 ((rd l0 x7_1) * a1)) t107))))) ?hg ?ho ?hn ?hr ?_; (case ho => rfl); (case hg => rfl); (case hn => rfl); (case hr => first | (go_simp; done) | (go_simp; rfl)); intro w18 hw; have hg : wr.grownBy w18 (some go16) := (by rw [hw]; exact HP17.2); have hp_ : Kd.R (Kd.int .i64) 3 w18 w.heap.size (fun _ => True) (.slice (some ⟨go16, 0, none⟩) x5_1.length co16) y109 := (by rw [hw, Ny109.out]; exact HP17.1); clear HP17; have n0_ := Aside0.mk (hp_); have n1_ := Aside0.mk ((by rw [hw]; exact below_set (HB.out) GB16.out : Below w.heap.size w w18)); clear HO_5; clear HB; have HO_5 := n0_; have HB := n1_; clear n0_ n1_; clear hg hw hp_)); try go_wp2_with (first | ((with_reducible refine gate_store (t := 3) (p := 37) rfl ?_); (try (rw [drewN_self wr]; generalize hq_ : World.drewN wr _ = wr; have n0_ := Aside0.mk (Kd.R_at hq_ HO_5.out); have n1_ := Aside0.mk (below_at hq_ HB.out); clear hq_ HO_5 HB; have HO_5 := n0_; have HB := n1_; clear n0_ n1_; (try (have HP17 := Kd.R_putg HO_5.out (x7_1 : Int) (wrap64 (Int.tdiv (wrap64 ((rd l0 x7_1) * a1)) t107)))))); refine store_event (t := 3) (p := 37) (v := ?vo_w18) (w1 := (wr.setCell ⟨go16, (x7_1 : Int).toNat, none⟩ (.int .i64 (wrap64 (Int.tdiv (wrap64 ((rd l0 x7_1) * a1)) t107))))) ?hg ?ho ?hn ?hr ?_; (case ho => rfl); (case hg => rfl); (case hn => rfl); (case hr => first | (go_simp; done) | (go_simp; rfl)); intro w18 hw; have hg : wr.grownBy w18 (some go16) := (by rw [hw]; exact HP17.2); have hp_ : Kd.R (Kd.int .i64) 3 w18 w.heap.size (fun _ => True) (.slice (some ⟨go16, 0, none⟩) x5_1.length co16) y109 := (by rw [hw, Ny109.out]; exact HP17.1); clear HP17; have n0_ := Aside0.mk (hp_); have n1_ := Aside0.mk ((by rw [hw]; exact below_set (HB.out) GB16.out : Below w.heap.size w w18)); clear HO_5; clear HB; have HO_5 := n0_; have HB := n1_; clear n0_ n1_; clear hg hw hp_)))
         go_roundg k1
         case measure => have := HK1.out; omega
         case rel => exact ⟨(y109), (wrap64 (x7_1 + 1)), (by first | rfl | (simp; done) | (simp [*]; done)), H', ⟨by have := HK1.out; omega⟩, ⟨by (with_reducible repeat (first | apply Kd.R_alloc | apply Kd.R_drewN | apply Kd.R_drew)); exact HO_5.out⟩, ⟨by repeat (first | (with_reducible first | exact HB.out | apply below_alloc | apply pw_below_drewN | apply below_drew1) | exact HB.out)⟩⟩
        ·rw [if_neg c15] at H
         exact absurd H (by simp)
      ·rw [if_neg c13] at H
       exact absurd H (by simp)
     ·rw [if_neg c12] at H
      have c12b0 : decide (x7_1 < (l0.length : Int)) = false := decide_eq_false c12
      clear c12
      by_cases c19 : 0 ≤ (l0.length : Int)
      ·rw [if_pos c19] at H
       have c19b0 := eq_true c19
       have c19b1 : decide (0 ≤ (l0.length : Int)) = true := decide_eq_true c19
       clear c19
       by_cases c20 : ((l0.length : Int) : Int).toNat ≤ 281474976710656
       ·rw [if_pos c20] at H
        have c20b0 := eq_true c20
        have c20b1 : decide (((l0.length : Int) : Int).toNat ≤ 281474976710656) = true := decide_eq_true c20
        clear c20
        obtain ⟨y110, hy110⟩ : ∃ y_ : List Bool, y_ = (List.replicate ((l0.length : Int) : Int).toNat false) := ⟨_, rfl⟩
        replace H : ((nacelleref08_total.f k1 x5_1).bind fun t113 => (nacelleref08_Curtail.l1 k1 l0 a1 x5_1 t107 y110 (wrap64 (a1 - t113)))) = some r := by first | (rw [hy110]; with_reducible exact H) | (have H2_ := (Option.bind_some _ _).symm.trans H; rw [hy110]; with_reducible exact H2_) | (have H2_ := (Option.bind_some _ _).symm.trans H; with_reducible exact H2_) | with_reducible exact H | (rw [hy110]; exact H) | exact H
        have Ny110 := Aside0.mk hy110
        clear hy110
        replace H := Option.bind_eq_some_iff.mp H
        obtain ⟨t113, A210, H⟩ := H
        replace H : (nacelleref08_Curtail.l1 k1 l0 a1 x5_1 t107 y110 (wrap64 (a1 - t113))) = some r := H
        have A21 := Aside0.mk A210
        clear A210
        have H' := Aside0.mk H
        clear H
        go_wp2_with (first | ((with_reducible refine gate_dst (N := 40) rfl ?_); refine Kd.R_make Kd.bool _ 4 rfl (N := 40) rfl 165 _ _ rfl (l0.length : Int) rfl rfl Tryz.underlying165 (.bool false) 1 info4 rfl (by decide) (by omega) false (ok := fun _ => True) (okp := fun _ => True) rfl (fun _ hk => hk) trivial (of_decide_eq_true (by first | (with_reducible assumption) | assumption)) (Nat.le_trans (Nat.mul_le_mul_right _ (of_decide_eq_true (by first | (with_reducible assumption) | assumption) : (l0.length : Int).toNat ≤ 281474976710656)) (by omega)) (Below.refl _ _) (Nat.le_refl _) ?_; intro v111 w22 ho23 hb hg_ hnew_; clear hg_ hnew_; (first | rw [← Ny110.out] at ho23 | (simp only [Int.reduceToNat] at ho23; rw [← Ny110.out] at ho23)); have n0_ := Aside0.mk (Kd.R_below (rs_ HO_5.out) hb); have n1_ := Aside0.mk (Kd.R_lower ho23 (below_size (ws_ HB.out))); have n2_ := Aside0.mk (below_step (ws_ HB.out) hb); clear HO_5; clear HB; have HO_5 := n0_; have HO112 := n1_; have HB := n2_; clear n0_ n1_ n2_; clear hb ho23; obtain ⟨Ao24, co24, eo24⟩ := Kd.R_slice HO_5.out; subst eo24) | (go_at_call 103; (with_reducible refine (nacelleref08_total.calls k1 _ _ x5_1 t113 _ ?side1 ?side2 A21.out).mono ?_); (case side1 => repeat (first | exact (Kd.R_reads' HO_5.out).2.2 | (with_reducible refine Kd.C_alloc ?_ _) | (with_reducible refine Kd.C_drewN ?_ _) | (with_reducible refine Kd.C_drew ?_))); (case side2 => exact (Kd.R_reads' HO_5.out).2.1); rintro e w' ⟨rfl, ⟨nd, rfl⟩⟩; (try first | exact ⟨rfl, _, World.drewN_drewN _ _ _⟩ | exact ⟨rfl, _, Eq.trans (World.drewN_drewN _ _ _) (congrArg (World.drewN _) (Nat.add_assoc _ _ _))⟩)))
        repeat (go_quiet (first | ((with_reducible refine gate_dst (N := 40) rfl ?_); refine Kd.R_make Kd.bool _ 4 rfl (N := 40) rfl 165 _ _ rfl (l0.length : Int) rfl rfl Tryz.underlying165 (.bool false) 1 info4 rfl (by decide) (by omega) false (ok := fun _ => True) (okp := fun _ => True) rfl (fun _ hk => hk) trivial (of_decide_eq_true (by first | (with_reducible assumption) | assumption)) (Nat.le_trans (Nat.mul_le_mul_right _ (of_decide_eq_true (by first | (with_reducible assumption) | assumption) : (l0.length : Int).toNat ≤ 281474976710656)) (by omega)) (Below.refl _ _) (Nat.le_refl _) ?_; intro v111 w22 ho23 hb hg_ hnew_; clear hg_ hnew_; (first | rw [← Ny110.out] at ho23 | (simp only [Int.reduceToNat] at ho23; rw [← Ny110.out] at ho23)); have n0_ := Aside0.mk (Kd.R_below (rs_ HO_5.out) hb); have n1_ := Aside0.mk (Kd.R_lower ho23 (below_size (ws_ HB.out))); have n2_ := Aside0.mk (below_step (ws_ HB.out) hb); clear HO_5; clear HB; have HO_5 := n0_; have HO112 := n1_; have HB := n2_; clear n0_ n1_ n2_; clear hb ho23; obtain ⟨Ao24, co24, eo24⟩ := Kd.R_slice HO_5.out; subst eo24) | (go_at_call 103; (with_reducible refine (nacelleref08_total.calls k1 _ _ x5_1 t113 _ ?side1 ?side2 A21.out).mono ?_); (case side1 => repeat (first | exact (Kd.R_reads' HO_5.out).2.2 | (with_reducible refine Kd.C_alloc ?_ _) | (with_reducible refine Kd.C_drewN ?_ _) | (with_reducible refine Kd.C_drew ?_))); (case side2 => exact (Kd.R_reads' HO_5.out).2.1); rintro e w' ⟨rfl, ⟨nd, rfl⟩⟩; (try first | exact ⟨rfl, _, World.drewN_drewN _ _ _⟩ | exact ⟨rfl, _, Eq.trans (World.drewN_drewN _ _ _) (congrArg (World.drewN _) (Nat.add_assoc _ _ _))⟩))); try go_wp2_with (first | ((with_reducible refine gate_dst (N := 40) rfl ?_); refine Kd.R_make Kd.bool _ 4 rfl (N := 40) rfl 165 _ _ rfl (l0.length : Int) rfl rfl Tryz.underlying165 (.bool false) 1 info4 rfl (by decide) (by omega) false (ok := fun _ => True) (okp := fun _ => True) rfl (fun _ hk => hk) trivial (of_decide_eq_true (by first | (with_reducible assumption) | assumption)) (Nat.le_trans (Nat.mul_le_mul_right _ (of_decide_eq_true (by first | (with_reducible assumption) | assumption) : (l0.length : Int).toNat ≤ 281474976710656)) (by omega)) (Below.refl _ _) (Nat.le_refl _) ?_; intro v111 w22 ho23 hb hg_ hnew_; clear hg_ hnew_; (first | rw [← Ny110.out] at ho23 | (simp only [Int.reduceToNat] at ho23; rw [← Ny110.out] at ho23)); have n0_ := Aside0.mk (Kd.R_below (rs_ HO_5.out) hb); have n1_ := Aside0.mk (Kd.R_lower ho23 (below_size (ws_ HB.out))); have n2_ := Aside0.mk (below_step (ws_ HB.out) hb); clear HO_5; clear HB; have HO_5 := n0_; have HO112 := n1_; have HB := n2_; clear n0_ n1_ n2_; clear hb ho23; obtain ⟨Ao24, co24, eo24⟩ := Kd.R_slice HO_5.out; subst eo24) | (go_at_call 103; (with_reducible refine (nacelleref08_total.calls k1 _ _ x5_1 t113 _ ?side1 ?side2 A21.out).mono ?_); (case side1 => repeat (first | exact (Kd.R_reads' HO_5.out).2.2 | (with_reducible refine Kd.C_alloc ?_ _) | (with_reducible refine Kd.C_drewN ?_ _) | (with_reducible refine Kd.C_drew ?_))); (case side2 => exact (Kd.R_reads' HO_5.out).2.1); rintro e w' ⟨rfl, ⟨nd, rfl⟩⟩; (try first | exact ⟨rfl, _, World.drewN_drewN _ _ _⟩ | exact ⟨rfl, _, Eq.trans (World.drewN_drewN _ _ _) (congrArg (World.drewN _) (Nat.add_assoc _ _ _))⟩))))
        go_loopg [9] k1 (fun kq v9 w' => ∃ (x5_2 : List Int) (x8_2 : List Bool) (x9_2 : Int), v9 = .int .i64 x9_2 ∧ Aside0 (nacelleref08_Curtail.l1 kq l0 a1 x5_2 t107 x8_2 x9_2 = some r) ∧ Aside0 (kq ≤ k1) ∧ Aside0 (Kd.R (Kd.int .i64) 3 w' w.heap.size (fun _ => True) (.slice Ao24 x5_1.length co24) x5_2) ∧ Aside0 (Kd.R Kd.bool 4 w' w.heap.size (fun _ => True) v111 x8_2) ∧ Aside0 (Below w.heap.size w w'))
        case atStart => exact ⟨(x5_1), (y110), (wrap64 (a1 - t113)), (by first | rfl | (simp; done) | (simp [*]; done)), H', ⟨Nat.le_refl _⟩, ⟨by (with_reducible repeat (first | apply Kd.R_alloc | apply Kd.R_drewN | apply Kd.R_drew)); exact HO_5.out⟩, ⟨by (with_reducible repeat (first | apply Kd.R_alloc | apply Kd.R_drewN | apply Kd.R_drew)); exact HO112.out⟩, ⟨by repeat (first | (with_reducible first | exact HB.out | apply below_alloc | apply pw_below_drewN | apply below_drew1) | exact HB.out)⟩⟩
        case round =>
         clear H'
         try clear c1
         try clear p1
         try clear q1
         try clear hx1
         try clear c2
         try clear p2
         try clear c3
         try clear c5
         try clear c5b0
         try clear p6
         try clear p10
         try clear q10
         try clear hx10
         try clear c12
         try clear c12b0
         try clear c13
         try clear c13b0
         try clear c14
         try clear c14b0
         try clear c14b1
         try clear c15
         try clear c15b0
         try clear p16
         try clear q16
         try clear hx16
         try clear hf16
         try clear c19
         try clear c19b0
         try clear c19b1
         try clear c20
         try clear c20b0
         try clear c20b1
         try clear hx108_0
         try clear hx16_0
         try clear p108
         try clear p16
         try clear p2
         try clear q108
         try clear q16
         obtain ⟨x5_2, x8_2, x9_2, rfl, HA, HK2, HO_5, HO_8, HB⟩ := hrel
         have hl5_2 := (Kd.R_reads' HO_5.out).1
         rw [hl5_2] at HO_5
         (try simp only [hl5_2])
         (try simp only [hl5_2] at HO_8)
         cases gk with
         | zero => exact absurd HA.out (by simp [nacelleref08_Curtail.l1])
         | succ k2 =>
          have H := HA.out
          clear HA
          simp only [nacelleref08_Curtail.l1] at H
          by_cases c25 : x9_2 > 0
          ·rw [if_pos c25] at H
           have c25b0 : decide (0 < x9_2) = true := decide_eq_true c25
           clear c25
           have H' := Aside0.mk H
           clear H
           go_wp2
           repeat (go_quiet (fail); try go_wp2)
           go_loopg [10, 11] k2 (fun kq v10 v11 w' => ∃ (x10_3 : Int) (x11_3 : Int), v10 = .int .i64 x10_3 ∧ v11 = .int .i64 x11_3 ∧ Aside0 (nacelleref08_Curtail.l2 kq l0 a1 x5_2 t107 x8_2 x9_2 x10_3 x11_3 = some r) ∧ Aside0 (kq ≤ k2) ∧ Aside0 (Kd.R (Kd.int .i64) 3 w' w.heap.size (fun _ => True) (.slice Ao24 x5_2.length co24) x5_2) ∧ Aside0 (Kd.R Kd.bool 4 w' w.heap.size (fun _ => True) v111 x8_2) ∧ Aside0 (Below w.heap.size w w'))
           case atStart => exact ⟨((-1)), (0), (by first | rfl | (simp; done) | (simp [*]; done)), (by first | rfl | (simp; done) | (simp [*]; done)), H', ⟨Nat.le_refl _⟩, ⟨by (try simp only [hl5_2]); (with_reducible repeat (first | apply Kd.R_alloc | apply Kd.R_drewN | apply Kd.R_drew)); exact HO_5.out⟩, ⟨by (try simp only [hl5_2]); (with_reducible repeat (first | apply Kd.R_alloc | apply Kd.R_drewN | apply Kd.R_drew)); exact HO_8.out⟩, ⟨by repeat (first | (with_reducible first | exact HB.out | apply below_alloc | apply pw_below_drewN | apply below_drew1) | exact HB.out)⟩⟩
           case round =>
            clear H'
            try clear c1
            try clear p1
            try clear q1
            try clear hx1
            try clear c2
            try clear p2
            try clear c3
            try clear c5
            try clear c5b0
            try clear p6
            try clear p10
            try clear q10
            try clear hx10
            try clear c12
            try clear c12b0
            try clear c13
            try clear c13b0
            try clear c14
            try clear c14b0
            try clear c14b1
            try clear c15
            try clear c15b0
            try clear p16
            try clear q16
            try clear hx16
            try clear hf16
            try clear c19
            try clear c19b0
            try clear c19b1
            try clear c20
            try clear c20b0
            try clear c20b1
            try clear c25
            try clear c25b0
            try clear hx108_0
            try clear hx16_0
            try clear p1
            try clear p10
            try clear p108
            try clear p16
            try clear p2
            try clear p6
            try clear q1
            try clear q10
            try clear q108
            try clear q16
            obtain ⟨x10_3, x11_3, rfl, rfl, HA, HK3, HO_5, HO_8, HB⟩ := hrel
            cases gk with
            | zero => exact absurd HA.out (by simp [nacelleref08_Curtail.l2])
            | succ k3 =>
             have H := HA.out
             clear HA
             simp only [nacelleref08_Curtail.l2] at H
             by_cases c26 : x11_3 < (l0.length : Int)
             ·rw [if_pos c26] at H
              have c26b0 : decide (x11_3 < (l0.length : Int)) = true := decide_eq_true c26
              clear c26
              by_cases c27 : 0 ≤ x11_3
              ·rw [if_pos c27] at H
               have c27b0 : decide (0 ≤ x11_3) = true := decide_eq_true c27
               clear c27
               by_cases c28 : x11_3 < (x8_2.length : Int)
               ·rw [if_pos c28] at H
                have c28b0 : decide (x11_3 < (x8_2.length : Int)) = true := decide_eq_true c28
                clear c28
                obtain ⟨bq29, hbq29⟩ : ∃ b_ : Bool, b_ = (rdOf false x8_2 x11_3) := ⟨_, rfl⟩
                replace H : (if bq29 = true then (nacelleref08_Curtail.l2 k3 l0 a1 x5_2 t107 x8_2 x9_2 x10_3 (wrap64 (x11_3 + 1))) else (if x10_3 < 0 then (nacelleref08_Curtail.l2 k3 l0 a1 x5_2 t107 x8_2 x9_2 x11_3 (wrap64 (x11_3 + 1))) else (if t107 = 0 then (none) else (if 0 ≤ x10_3 then (if x10_3 < (l0.length : Int) then (if (Int.tmod (wrap64 ((rd l0 x11_3) * a1)) t107) > (Int.tmod (wrap64 ((rd l0 x10_3) * a1)) t107) then (nacelleref08_Curtail.l2 k3 l0 a1 x5_2 t107 x8_2 x9_2 x11_3 (wrap64 (x11_3 + 1))) else (nacelleref08_Curtail.l2 k3 l0 a1 x5_2 t107 x8_2 x9_2 x10_3 (wrap64 (x11_3 + 1)))) else (none)) else (none))))) = some r := by rw [← hbq29] at H; exact H
                have Nbq29 := Aside0.mk hbq29
                clear hbq29
                by_cases c30 : bq29 = true
                ·subst c30
                 have H1 : (nacelleref08_Curtail.l2 k3 l0 a1 x5_2 t107 x8_2 x9_2 x10_3 (wrap64 (x11_3 + 1))) = some r := by rw [if_pos rfl] at H; exact H
                 clear H
                 have H := H1
                 clear H1
                 have H' := Aside0.mk H
                 clear H
                 obtain ⟨Ao31, co31, eo31⟩ := Kd.R_slice HO_8.out
                 subst eo31
                 have p114 : 0 ≤ (x11_3 : Int) := of_decide_eq_true (by first | (with_reducible assumption) | assumption)
                 have q114 : x11_3 < (x8_2.length : Int) := of_decide_eq_true (by first | (with_reducible assumption) | assumption)
                 obtain ⟨ad114, e114, hx114_0⟩ := Kd.at_bool (Kd.R_reads' HO_8.out).2.2 x11_3 p114 q114
                 (try rw [← Nbq29.out] at hx114_0)
                 cases e114
                 replace p114 := eq_true p114
                 replace q114 := eq_true q114
                 go_wp2
                 repeat (go_quiet (fail); try go_wp2)
                 go_roundg k3
                 case measure => have := HK1.out; have := HK2.out; have := HK3.out; omega
                 case rel => exact ⟨(x10_3), (wrap64 (x11_3 + 1)), (by first | rfl | (simp; done) | (simp [*]; done)), (by first | rfl | (simp; done) | (simp [*]; done)), H', ⟨by have := HK1.out; have := HK2.out; have := HK3.out; omega⟩, ⟨by (try simp only [hl5_2]); (with_reducible repeat (first | apply Kd.R_alloc | apply Kd.R_drewN | apply Kd.R_drew)); exact HO_5.out⟩, ⟨by (try simp only [hl5_2]); (with_reducible repeat (first | apply Kd.R_alloc | apply Kd.R_drewN | apply Kd.R_drew)); exact HO_8.out⟩, ⟨by repeat (first | (with_reducible first | exact HB.out | apply below_alloc | apply pw_below_drewN | apply below_drew1) | exact HB.out)⟩⟩
                ·replace c30 := Bool.eq_false_iff.mpr c30
                 subst c30
                 have H1 : (if x10_3 < 0 then (nacelleref08_Curtail.l2 k3 l0 a1 x5_2 t107 x8_2 x9_2 x11_3 (wrap64 (x11_3 + 1))) else (if t107 = 0 then (none) else (if 0 ≤ x10_3 then (if x10_3 < (l0.length : Int) then (if (Int.tmod (wrap64 ((rd l0 x11_3) * a1)) t107) > (Int.tmod (wrap64 ((rd l0 x10_3) * a1)) t107) then (nacelleref08_Curtail.l2 k3 l0 a1 x5_2 t107 x8_2 x9_2 x11_3 (wrap64 (x11_3 + 1))) else (nacelleref08_Curtail.l2 k3 l0 a1 x5_2 t107 x8_2 x9_2 x10_3 (wrap64 (x11_3 + 1)))) else (none)) else (none)))) = some r := by rw [if_neg (show ¬ (false = true) by decide)] at H; exact H
                 clear H
                 have H := H1
                 clear H1
                 by_cases c32 : x10_3 < 0
                 ·rw [if_pos c32] at H
                  have c32b0 : decide (x10_3 < 0) = true := decide_eq_true c32
                  clear c32
                  have H' := Aside0.mk H
                  clear H
                  obtain ⟨Ao33, co33, eo33⟩ := Kd.R_slice HO_8.out
                  subst eo33
                  have p114 : 0 ≤ (x11_3 : Int) := of_decide_eq_true (by first | (with_reducible assumption) | assumption)
                  have q114 : x11_3 < (x8_2.length : Int) := of_decide_eq_true (by first | (with_reducible assumption) | assumption)
                  obtain ⟨ad114, e114, hx114_0⟩ := Kd.at_bool (Kd.R_reads' HO_8.out).2.2 x11_3 p114 q114
                  (try rw [← Nbq29.out] at hx114_0)
                  cases e114
                  replace p114 := eq_true p114
                  replace q114 := eq_true q114
                  go_wp2
                  repeat (go_quiet (fail); try go_wp2)
                  go_roundg k3
                  case measure => have := HK1.out; have := HK2.out; have := HK3.out; omega
                  case rel => exact ⟨(x11_3), (wrap64 (x11_3 + 1)), (by first | rfl | (simp; done) | (simp [*]; done)), (by first | rfl | (simp; done) | (simp [*]; done)), H', ⟨by have := HK1.out; have := HK2.out; have := HK3.out; omega⟩, ⟨by (try simp only [hl5_2]); (with_reducible repeat (first | apply Kd.R_alloc | apply Kd.R_drewN | apply Kd.R_drew)); exact HO_5.out⟩, ⟨by (try simp only [hl5_2]); (with_reducible repeat (first | apply Kd.R_alloc | apply Kd.R_drewN | apply Kd.R_drew)); exact HO_8.out⟩, ⟨by repeat (first | (with_reducible first | exact HB.out | apply below_alloc | apply pw_below_drewN | apply below_drew1) | exact HB.out)⟩⟩
                 ·rw [if_neg c32] at H
                  have c32b0 : decide (x10_3 < 0) = false := decide_eq_false c32
                  clear c32
                  by_cases c34 : t107 = 0
                  ·rw [if_pos c34] at H
                   exact absurd H (by simp)
                  ·rw [if_neg c34] at H
                   have c34b0 : (t107 == 0) = false := beq_eq_false_iff_ne.mpr c34
                   have c34b1 : (t107 != 0) = true := bne_iff_ne.mpr c34
                   by_cases c35 : 0 ≤ x10_3
                   ·rw [if_pos c35] at H
                    have c35b0 : decide (0 ≤ x10_3) = true := decide_eq_true c35
                    clear c35
                    by_cases c36 : x10_3 < (l0.length : Int)
                    ·rw [if_pos c36] at H
                     have c36b0 : decide (x10_3 < (l0.length : Int)) = true := decide_eq_true c36
                     clear c36
                     by_cases c37 : (Int.tmod (wrap64 ((rd l0 x11_3) * a1)) t107) > (Int.tmod (wrap64 ((rd l0 x10_3) * a1)) t107)
                     ·rw [if_pos c37] at H
                      have c37b0 : decide ((Int.tmod (wrap64 ((rd l0 x10_3) * a1)) t107) < (Int.tmod (wrap64 ((rd l0 x11_3) * a1)) t107)) = true := decide_eq_true c37
                      clear c37
                      have H' := Aside0.mk H
                      clear H
                      obtain ⟨Ao38, co38, eo38⟩ := Kd.R_slice HO_8.out
                      subst eo38
                      have p114 : 0 ≤ (x11_3 : Int) := of_decide_eq_true (by first | (with_reducible assumption) | assumption)
                      have q114 : x11_3 < (x8_2.length : Int) := of_decide_eq_true (by first | (with_reducible assumption) | assumption)
                      obtain ⟨ad114, e114, hx114_0⟩ := Kd.at_bool (Kd.R_reads' HO_8.out).2.2 x11_3 p114 q114
                      (try rw [← Nbq29.out] at hx114_0)
                      cases e114
                      replace p114 := eq_true p114
                      replace q114 := eq_true q114
                      have p115 : 0 ≤ (x11_3 : Int) := of_decide_eq_true (by first | (with_reducible assumption) | assumption)
                      have q115 : x11_3 < (l0.length : Int) := of_decide_eq_true (by first | (with_reducible assumption) | assumption)
                      obtain ⟨ad115, e115, hx115_0⟩ := Kd.at_int HR0.out x11_3 p115 q115
                      cases e115
                      replace hx115_0 := (HB.out.cell (World.block_lt_of_cell? w _ hx115_0)).trans hx115_0
                      replace p115 := eq_true p115
                      replace q115 := eq_true q115
                      have p116 : 0 ≤ (x10_3 : Int) := of_decide_eq_true (by first | (with_reducible assumption) | assumption)
                      have q116 : x10_3 < (l0.length : Int) := of_decide_eq_true (by first | (with_reducible assumption) | assumption)
                      obtain ⟨ad116, e116, hx116_0⟩ := Kd.at_int HR0.out x10_3 p116 q116
                      obtain rfl : ad115 = ad116 := (by injection e116)
                      replace hx116_0 := (HB.out.cell (World.block_lt_of_cell? w _ hx116_0)).trans hx116_0
                      replace p116 := eq_true p116
                      replace q116 := eq_true q116
                      go_wp2
                      repeat (go_quiet (fail); try go_wp2)
                      go_roundg k3
                      case measure => have := HK1.out; have := HK2.out; have := HK3.out; omega
                      case rel => exact ⟨(x11_3), (wrap64 (x11_3 + 1)), (by first | rfl | (simp; done) | (simp [*]; done)), (by first | rfl | (simp; done) | (simp [*]; done)), H', ⟨by have := HK1.out; have := HK2.out; have := HK3.out; omega⟩, ⟨by (try simp only [hl5_2]); (with_reducible repeat (first | apply Kd.R_alloc | apply Kd.R_drewN | apply Kd.R_drew)); exact HO_5.out⟩, ⟨by (try simp only [hl5_2]); (with_reducible repeat (first | apply Kd.R_alloc | apply Kd.R_drewN | apply Kd.R_drew)); exact HO_8.out⟩, ⟨by repeat (first | (with_reducible first | exact HB.out | apply below_alloc | apply pw_below_drewN | apply below_drew1) | exact HB.out)⟩⟩
                     ·rw [if_neg c37] at H
                      have c37b0 : decide ((Int.tmod (wrap64 ((rd l0 x10_3) * a1)) t107) < (Int.tmod (wrap64 ((rd l0 x11_3) * a1)) t107)) = false := decide_eq_false c37
                      clear c37
                      have H' := Aside0.mk H
                      clear H
                      obtain ⟨Ao39, co39, eo39⟩ := Kd.R_slice HO_8.out
                      subst eo39
                      have p114 : 0 ≤ (x11_3 : Int) := of_decide_eq_true (by first | (with_reducible assumption) | assumption)
                      have q114 : x11_3 < (x8_2.length : Int) := of_decide_eq_true (by first | (with_reducible assumption) | assumption)
                      obtain ⟨ad114, e114, hx114_0⟩ := Kd.at_bool (Kd.R_reads' HO_8.out).2.2 x11_3 p114 q114
                      (try rw [← Nbq29.out] at hx114_0)
                      cases e114
                      replace p114 := eq_true p114
                      replace q114 := eq_true q114
                      have p115 : 0 ≤ (x11_3 : Int) := of_decide_eq_true (by first | (with_reducible assumption) | assumption)
                      have q115 : x11_3 < (l0.length : Int) := of_decide_eq_true (by first | (with_reducible assumption) | assumption)
                      obtain ⟨ad115, e115, hx115_0⟩ := Kd.at_int HR0.out x11_3 p115 q115
                      cases e115
                      replace hx115_0 := (HB.out.cell (World.block_lt_of_cell? w _ hx115_0)).trans hx115_0
                      replace p115 := eq_true p115
                      replace q115 := eq_true q115
                      have p116 : 0 ≤ (x10_3 : Int) := of_decide_eq_true (by first | (with_reducible assumption) | assumption)
                      have q116 : x10_3 < (l0.length : Int) := of_decide_eq_true (by first | (with_reducible assumption) | assumption)
                      obtain ⟨ad116, e116, hx116_0⟩ := Kd.at_int HR0.out x10_3 p116 q116
                      obtain rfl : ad115 = ad116 := (by injection e116)
                      replace hx116_0 := (HB.out.cell (World.block_lt_of_cell? w _ hx116_0)).trans hx116_0
                      replace p116 := eq_true p116
                      replace q116 := eq_true q116
                      go_wp2
                      repeat (go_quiet (fail); try go_wp2)
                      go_roundg k3
                      case measure => have := HK1.out; have := HK2.out; have := HK3.out; omega
                      case rel => exact ⟨(x10_3), (wrap64 (x11_3 + 1)), (by first | rfl | (simp; done) | (simp [*]; done)), (by first | rfl | (simp; done) | (simp [*]; done)), H', ⟨by have := HK1.out; have := HK2.out; have := HK3.out; omega⟩, ⟨by (try simp only [hl5_2]); (with_reducible repeat (first | apply Kd.R_alloc | apply Kd.R_drewN | apply Kd.R_drew)); exact HO_5.out⟩, ⟨by (try simp only [hl5_2]); (with_reducible repeat (first | apply Kd.R_alloc | apply Kd.R_drewN | apply Kd.R_drew)); exact HO_8.out⟩, ⟨by repeat (first | (with_reducible first | exact HB.out | apply below_alloc | apply pw_below_drewN | apply below_drew1) | exact HB.out)⟩⟩
                    ·rw [if_neg c36] at H
                     exact absurd H (by simp)
                   ·rw [if_neg c35] at H
                    exact absurd H (by simp)
               ·rw [if_neg c28] at H
                exact absurd H (by simp)
              ·rw [if_neg c27] at H
               exact absurd H (by simp)
             ·rw [if_neg c26] at H
              have c26b0 : decide (x11_3 < (l0.length : Int)) = false := decide_eq_false c26
              clear c26
              by_cases c40 : 0 ≤ x10_3
              ·rw [if_pos c40] at H
               have c40b0 : decide (0 ≤ x10_3) = true := decide_eq_true c40
               clear c40
               by_cases c41 : x10_3 < (x8_2.length : Int)
               ·rw [if_pos c41] at H
                have c41b0 : decide (x10_3 < (x8_2.length : Int)) = true := decide_eq_true c41
                clear c41
                obtain ⟨y117, hy117⟩ : ∃ y_ : List Bool, y_ = (x8_2.set (x10_3 : Int).toNat true) := ⟨_, rfl⟩
                replace H : (if x10_3 < (x5_2.length : Int) then (nacelleref08_Curtail.l1 k3 l0 a1 (x5_2.set (x10_3 : Int).toNat (wrap64 ((rd x5_2 x10_3) + 1))) t107 y117 (wrap64 (x9_2 - 1))) else (none)) = some r := by first | (rw [hy117]; with_reducible exact H) | (have H2_ := (Option.bind_some _ _).symm.trans H; rw [hy117]; with_reducible exact H2_) | (have H2_ := (Option.bind_some _ _).symm.trans H; with_reducible exact H2_) | with_reducible exact H | (rw [hy117]; exact H) | exact H
                have Ny117 := Aside0.mk hy117
                clear hy117
                by_cases c43 : x10_3 < (x5_2.length : Int)
                ·rw [if_pos c43] at H
                 have c43b0 : decide (x10_3 < (x5_2.length : Int)) = true := decide_eq_true c43
                 clear c43
                 obtain ⟨y119, hy119⟩ : ∃ y_ : List Int, y_ = (x5_2.set (x10_3 : Int).toNat (wrap64 ((rd x5_2 x10_3) + 1))) := ⟨_, rfl⟩
                 replace H : (nacelleref08_Curtail.l1 k3 l0 a1 y119 t107 y117 (wrap64 (x9_2 - 1))) = some r := by first | (rw [hy119]; with_reducible exact H) | (have H2_ := (Option.bind_some _ _).symm.trans H; rw [hy119]; with_reducible exact H2_) | (have H2_ := (Option.bind_some _ _).symm.trans H; with_reducible exact H2_) | with_reducible exact H | (rw [hy119]; exact H) | exact H
                 have Ny119 := Aside0.mk hy119
                 clear hy119
                 have H' := Aside0.mk H
                 clear H
                 have p42 : 0 ≤ (x10_3 : Int) := of_decide_eq_true (by first | (with_reducible assumption) | assumption)
                 have q42 : (x10_3 : Int) < ((x8_2.length : Int) : Int) := of_decide_eq_true (by first | (with_reducible assumption) | assumption)
                 obtain ⟨go42, co42, eo42, gb42, gl42, cl42, HG42⟩ := Kd.R_form HO_8.out (by omega)
                 (first | cases eo42 | (injection eo42 with ea_ en_ ec_; (first | subst ea_ | (injection ea_ with ea_; subst ea_)); subst ec_; clear en_))
                 have GB42 := Aside0.mk gb42
                 have GG42 := Aside0.mk HG42
                 clear gb42 gl42 HG42
                 obtain ⟨hx42_0, hf42_0⟩ := Kd.R_celln false HO_8.out (x10_3 : Int) p42 q42
                 replace p42 := eq_true p42
                 replace q42 := eq_true q42
                 have HP45 := Kd.R_putg HO_8.out (x10_3 : Int) true
                 go_wp2_with (first | ((with_reducible refine gate_store (t := 4) (p := 86) rfl ?_); (try (rw [drewN_self wr]; generalize hq_ : World.drewN wr _ = wr; have n0_ := Aside0.mk (Kd.R_at hq_ HO_5.out); have n1_ := Aside0.mk (Kd.R_at hq_ HO_8.out); have n2_ := Aside0.mk (below_at hq_ HB.out); clear hq_ HO_5 HO_8 HB; have HO_5 := n0_; have HO_8 := n1_; have HB := n2_; clear n0_ n1_ n2_; (try (have HP45 := Kd.R_putg HO_8.out (x10_3 : Int) true)))); refine store_event (t := 4) (p := 86) (v := ?vo_w46) (w1 := (wr.setCell ⟨go42, (x10_3 : Int).toNat, none⟩ (.bool true))) ?hg ?ho ?hn ?hr ?_; (case ho => rfl); (case hg => rfl); (case hn => rfl); (case hr => first | (go_simp; done) | (go_simp; rfl)); intro w46 hw; have hg : wr.grownBy w46 (some go42) := (by rw [hw]; exact HP45.2); have hp_ : Kd.R Kd.bool 4 w46 w.heap.size (fun _ => True) (.slice (some ⟨go42, 0, none⟩) x8_2.length co42) y117 := (by rw [hw, Ny117.out]; exact HP45.1); clear HP45; have n0_ := Aside0.mk (Kd.R_over' (v := (.slice (some ⟨go42, 0, none⟩) x8_2.length co42)) (rs_ HO_5.out) (Kd.R_typed HO_8.out) (by decide) hg); have n1_ := Aside0.mk (hp_); have n2_ := Aside0.mk ((by rw [hw]; exact below_set (HB.out) GB42.out : Below w.heap.size w w46)); clear HO_5; clear HO_8; clear HB; have HO_5 := n0_; have HO_8 := n1_; have HB := n2_; clear n0_ n1_ n2_; clear hg hw hp_; have p118 : 0 ≤ (x10_3 : Int) := of_decide_eq_true (by first | (with_reducible assumption) | assumption); have q118 : x10_3 < (x5_2.length : Int) := of_decide_eq_true (by first | (with_reducible assumption) | assumption); obtain ⟨ad118, e118, hx118_0⟩ := Kd.at_int (Kd.R_reads' HO_5.out).2.2 x10_3 p118 q118; cases e118; replace p118 := eq_true p118; replace q118 := eq_true q118; have p44 : 0 ≤ (x10_3 : Int) := of_decide_eq_true (by first | (with_reducible assumption) | assumption); have q44 : (x10_3 : Int) < ((x5_2.length : Int) : Int) := of_decide_eq_true (by first | (with_reducible assumption) | assumption); obtain ⟨go44, co44, eo44, gb44, gl44, cl44, HG44⟩ := Kd.R_form HO_5.out (by omega); (first | cases eo44 | (injection eo44 with ea_ en_ ec_; (first | subst ea_ | (injection ea_ with ea_; subst ea_)); subst ec_; clear en_)); have GB44 := Aside0.mk gb44; have GG44 := Aside0.mk HG44; clear gb44 gl44 HG44; (first | simp only [add_plain] at hx118_0 | skip); obtain ⟨hx44_0, hf44_0⟩ := Kd.R_celln 0 HO_5.out (x10_3 : Int) p44 q44; replace p44 := eq_true p44; replace q44 := eq_true q44; obtain ⟨hy47_, hz47_⟩ := Kd.R_celln 0 HO_5.out (x10_3 : Int) (of_decide_eq_true (by first | (with_reducible assumption) | assumption)) (of_decide_eq_true (by first | (with_reducible assumption) | assumption)); have HP47 := Kd.R_putg HO_5.out (x10_3 : Int) (wrap64 ((rd x5_2 x10_3) + 1))) | ((with_reducible refine gate_store (t := 3) (p := 92) rfl ?_); (try (rw [drewN_self w46]; generalize hq_ : World.drewN w46 _ = w46; have n0_ := Aside0.mk (Kd.R_at hq_ HO_5.out); have n1_ := Aside0.mk (Kd.R_at hq_ HO_8.out); have n2_ := Aside0.mk (below_at hq_ HB.out); clear hq_ HO_5 HO_8 HB; have HO_5 := n0_; have HO_8 := n1_; have HB := n2_; clear n0_ n1_ n2_; (try (obtain ⟨hy47_, hz47_⟩ := Kd.R_celln 0 HO_5.out (x10_3 : Int) (of_decide_eq_true (by first | (with_reducible assumption) | assumption)) (of_decide_eq_true (by first | (with_reducible assumption) | assumption)))); (try (have HP47 := Kd.R_putg HO_5.out (x10_3 : Int) (wrap64 ((rd x5_2 x10_3) + 1)))))); refine store_event (t := 3) (p := 92) (v := ?vo_w48) (w1 := (w46.setCell ⟨go44, (x10_3 : Int).toNat, none⟩ (.int .i64 (wrap64 ((rd x5_2 x10_3) + 1))))) ?hg ?ho ?hn ?hr ?_; (case ho => rfl); (case hg => rfl); (case hn => rfl); (case hr => first | (go_simp; done) | (go_simp; rfl)); intro w48 hw; have hg : w46.grownBy w48 (some go44) := (by rw [hw]; exact HP47.2); have hp_ : Kd.R (Kd.int .i64) 3 w48 w.heap.size (fun _ => True) (.slice (some ⟨go44, 0, none⟩) x5_2.length co24) y119 := (by rw [hw, Ny119.out]; exact HP47.1); clear HP47; have n0_ := Aside0.mk (hp_); have n1_ := Aside0.mk (Kd.R_over' (v := (.slice (some ⟨go44, 0, none⟩) x5_2.length co24)) (rs_ HO_8.out) (Kd.R_typed HO_5.out) (by decide) hg); have n2_ := Aside0.mk ((by rw [hw]; exact below_set (HB.out) GB44.out : Below w.heap.size w w48)); clear HO_5; clear HO_8; clear HB; have HO_5 := n0_; have HO_8 := n1_; have HB := n2_; clear n0_ n1_ n2_; clear hg hw hp_))
                 repeat (go_quiet (first | ((with_reducible refine gate_store (t := 4) (p := 86) rfl ?_); (try (rw [drewN_self wr]; generalize hq_ : World.drewN wr _ = wr; have n0_ := Aside0.mk (Kd.R_at hq_ HO_5.out); have n1_ := Aside0.mk (Kd.R_at hq_ HO_8.out); have n2_ := Aside0.mk (below_at hq_ HB.out); clear hq_ HO_5 HO_8 HB; have HO_5 := n0_; have HO_8 := n1_; have HB := n2_; clear n0_ n1_ n2_; (try (have HP45 := Kd.R_putg HO_8.out (x10_3 : Int) true)))); refine store_event (t := 4) (p := 86) (v := ?vo_w46) (w1 := (wr.setCell ⟨go42, (x10_3 : Int).toNat, none⟩ (.bool true))) ?hg ?ho ?hn ?hr ?_; (case ho => rfl); (case hg => rfl); (case hn => rfl); (case hr => first | (go_simp; done) | (go_simp; rfl)); intro w46 hw; have hg : wr.grownBy w46 (some go42) := (by rw [hw]; exact HP45.2); have hp_ : Kd.R Kd.bool 4 w46 w.heap.size (fun _ => True) (.slice (some ⟨go42, 0, none⟩) x8_2.length co42) y117 := (by rw [hw, Ny117.out]; exact HP45.1); clear HP45; have n0_ := Aside0.mk (Kd.R_over' (v := (.slice (some ⟨go42, 0, none⟩) x8_2.length co42)) (rs_ HO_5.out) (Kd.R_typed HO_8.out) (by decide) hg); have n1_ := Aside0.mk (hp_); have n2_ := Aside0.mk ((by rw [hw]; exact below_set (HB.out) GB42.out : Below w.heap.size w w46)); clear HO_5; clear HO_8; clear HB; have HO_5 := n0_; have HO_8 := n1_; have HB := n2_; clear n0_ n1_ n2_; clear hg hw hp_; have p118 : 0 ≤ (x10_3 : Int) := of_decide_eq_true (by first | (with_reducible assumption) | assumption); have q118 : x10_3 < (x5_2.length : Int) := of_decide_eq_true (by first | (with_reducible assumption) | assumption); obtain ⟨ad118, e118, hx118_0⟩ := Kd.at_int (Kd.R_reads' HO_5.out).2.2 x10_3 p118 q118; cases e118; replace p118 := eq_true p118; replace q118 := eq_true q118; have p44 : 0 ≤ (x10_3 : Int) := of_decide_eq_true (by first | (with_reducible assumption) | assumption); have q44 : (x10_3 : Int) < ((x5_2.length : Int) : Int) := of_decide_eq_true (by first | (with_reducible assumption) | assumption); obtain ⟨go44, co44, eo44, gb44, gl44, cl44, HG44⟩ := Kd.R_form HO_5.out (by omega); (first | cases eo44 | (injection eo44 with ea_ en_ ec_; (first | subst ea_ | (injection ea_ with ea_; subst ea_)); subst ec_; clear en_)); have GB44 := Aside0.mk gb44; have GG44 := Aside0.mk HG44; clear gb44 gl44 HG44; (first | simp only [add_plain] at hx118_0 | skip); obtain ⟨hx44_0, hf44_0⟩ := Kd.R_celln 0 HO_5.out (x10_3 : Int) p44 q44; replace p44 := eq_true p44; replace q44 := eq_true q44; obtain ⟨hy47_, hz47_⟩ := Kd.R_celln 0 HO_5.out (x10_3 : Int) (of_decide_eq_true (by first | (with_reducible assumption) | assumption)) (of_decide_eq_true (by first | (with_reducible assumption) | assumption)); have HP47 := Kd.R_putg HO_5.out (x10_3 : Int) (wrap64 ((rd x5_2 x10_3) + 1))) | ((with_reducible refine gate_store (t := 3) (p := 92) rfl ?_); (try (rw [drewN_self w46]; generalize hq_ : World.drewN w46 _ = w46; have n0_ := Aside0.mk (Kd.R_at hq_ HO_5.out); have n1_ := Aside0.mk (Kd.R_at hq_ HO_8.out); have n2_ := Aside0.mk (below_at hq_ HB.out); clear hq_ HO_5 HO_8 HB; have HO_5 := n0_; have HO_8 := n1_; have HB := n2_; clear n0_ n1_ n2_; (try (obtain ⟨hy47_, hz47_⟩ := Kd.R_celln 0 HO_5.out (x10_3 : Int) (of_decide_eq_true (by first | (with_reducible assumption) | assumption)) (of_decide_eq_true (by first | (with_reducible assumption) | assumption)))); (try (have HP47 := Kd.R_putg HO_5.out (x10_3 : Int) (wrap64 ((rd x5_2 x10_3) + 1)))))); refine store_event (t := 3) (p := 92) (v := ?vo_w48) (w1 := (w46.setCell ⟨go44, (x10_3 : Int).toNat, none⟩ (.int .i64 (wrap64 ((rd x5_2 x10_3) + 1))))) ?hg ?ho ?hn ?hr ?_; (case ho => rfl); (case hg => rfl); (case hn => rfl); (case hr => first | (go_simp; done) | (go_simp; rfl)); intro w48 hw; have hg : w46.grownBy w48 (some go44) := (by rw [hw]; exact HP47.2); have hp_ : Kd.R (Kd.int .i64) 3 w48 w.heap.size (fun _ => True) (.slice (some ⟨go44, 0, none⟩) x5_2.length co24) y119 := (by rw [hw, Ny119.out]; exact HP47.1); clear HP47; have n0_ := Aside0.mk (hp_); have n1_ := Aside0.mk (Kd.R_over' (v := (.slice (some ⟨go44, 0, none⟩) x5_2.length co24)) (rs_ HO_8.out) (Kd.R_typed HO_5.out) (by decide) hg); have n2_ := Aside0.mk ((by rw [hw]; exact below_set (HB.out) GB44.out : Below w.heap.size w w48)); clear HO_5; clear HO_8; clear HB; have HO_5 := n0_; have HO_8 := n1_; have HB := n2_; clear n0_ n1_ n2_; clear hg hw hp_)); try go_wp2_with (first | ((with_reducible refine gate_store (t := 4) (p := 86) rfl ?_); (try (rw [drewN_self wr]; generalize hq_ : World.drewN wr _ = wr; have n0_ := Aside0.mk (Kd.R_at hq_ HO_5.out); have n1_ := Aside0.mk (Kd.R_at hq_ HO_8.out); have n2_ := Aside0.mk (below_at hq_ HB.out); clear hq_ HO_5 HO_8 HB; have HO_5 := n0_; have HO_8 := n1_; have HB := n2_; clear n0_ n1_ n2_; (try (have HP45 := Kd.R_putg HO_8.out (x10_3 : Int) true)))); refine store_event (t := 4) (p := 86) (v := ?vo_w46) (w1 := (wr.setCell ⟨go42, (x10_3 : Int).toNat, none⟩ (.bool true))) ?hg ?ho ?hn ?hr ?_; (case ho => rfl); (case hg => rfl); (case hn => rfl); (case hr => first | (go_simp; done) | (go_simp; rfl)); intro w46 hw; have hg : wr.grownBy w46 (some go42) := (by rw [hw]; exact HP45.2); have hp_ : Kd.R Kd.bool 4 w46 w.heap.size (fun _ => True) (.slice (some ⟨go42, 0, none⟩) x8_2.length co42) y117 := (by rw [hw, Ny117.out]; exact HP45.1); clear HP45; have n0_ := Aside0.mk (Kd.R_over' (v := (.slice (some ⟨go42, 0, none⟩) x8_2.length co42)) (rs_ HO_5.out) (Kd.R_typed HO_8.out) (by decide) hg); have n1_ := Aside0.mk (hp_); have n2_ := Aside0.mk ((by rw [hw]; exact below_set (HB.out) GB42.out : Below w.heap.size w w46)); clear HO_5; clear HO_8; clear HB; have HO_5 := n0_; have HO_8 := n1_; have HB := n2_; clear n0_ n1_ n2_; clear hg hw hp_; have p118 : 0 ≤ (x10_3 : Int) := of_decide_eq_true (by first | (with_reducible assumption) | assumption); have q118 : x10_3 < (x5_2.length : Int) := of_decide_eq_true (by first | (with_reducible assumption) | assumption); obtain ⟨ad118, e118, hx118_0⟩ := Kd.at_int (Kd.R_reads' HO_5.out).2.2 x10_3 p118 q118; cases e118; replace p118 := eq_true p118; replace q118 := eq_true q118; have p44 : 0 ≤ (x10_3 : Int) := of_decide_eq_true (by first | (with_reducible assumption) | assumption); have q44 : (x10_3 : Int) < ((x5_2.length : Int) : Int) := of_decide_eq_true (by first | (with_reducible assumption) | assumption); obtain ⟨go44, co44, eo44, gb44, gl44, cl44, HG44⟩ := Kd.R_form HO_5.out (by omega); (first | cases eo44 | (injection eo44 with ea_ en_ ec_; (first | subst ea_ | (injection ea_ with ea_; subst ea_)); subst ec_; clear en_)); have GB44 := Aside0.mk gb44; have GG44 := Aside0.mk HG44; clear gb44 gl44 HG44; (first | simp only [add_plain] at hx118_0 | skip); obtain ⟨hx44_0, hf44_0⟩ := Kd.R_celln 0 HO_5.out (x10_3 : Int) p44 q44; replace p44 := eq_true p44; replace q44 := eq_true q44; obtain ⟨hy47_, hz47_⟩ := Kd.R_celln 0 HO_5.out (x10_3 : Int) (of_decide_eq_true (by first | (with_reducible assumption) | assumption)) (of_decide_eq_true (by first | (with_reducible assumption) | assumption)); have HP47 := Kd.R_putg HO_5.out (x10_3 : Int) (wrap64 ((rd x5_2 x10_3) + 1))) | ((with_reducible refine gate_store (t := 3) (p := 92) rfl ?_); (try (rw [drewN_self w46]; generalize hq_ : World.drewN w46 _ = w46; have n0_ := Aside0.mk (Kd.R_at hq_ HO_5.out); have n1_ := Aside0.mk (Kd.R_at hq_ HO_8.out); have n2_ := Aside0.mk (below_at hq_ HB.out); clear hq_ HO_5 HO_8 HB; have HO_5 := n0_; have HO_8 := n1_; have HB := n2_; clear n0_ n1_ n2_; (try (obtain ⟨hy47_, hz47_⟩ := Kd.R_celln 0 HO_5.out (x10_3 : Int) (of_decide_eq_true (by first | (with_reducible assumption) | assumption)) (of_decide_eq_true (by first | (with_reducible assumption) | assumption)))); (try (have HP47 := Kd.R_putg HO_5.out (x10_3 : Int) (wrap64 ((rd x5_2 x10_3) + 1)))))); refine store_event (t := 3) (p := 92) (v := ?vo_w48) (w1 := (w46.setCell ⟨go44, (x10_3 : Int).toNat, none⟩ (.int .i64 (wrap64 ((rd x5_2 x10_3) + 1))))) ?hg ?ho ?hn ?hr ?_; (case ho => rfl); (case hg => rfl); (case hn => rfl); (case hr => first | (go_simp; done) | (go_simp; rfl)); intro w48 hw; have hg : w46.grownBy w48 (some go44) := (by rw [hw]; exact HP47.2); have hp_ : Kd.R (Kd.int .i64) 3 w48 w.heap.size (fun _ => True) (.slice (some ⟨go44, 0, none⟩) x5_2.length co24) y119 := (by rw [hw, Ny119.out]; exact HP47.1); clear HP47; have n0_ := Aside0.mk (hp_); have n1_ := Aside0.mk (Kd.R_over' (v := (.slice (some ⟨go44, 0, none⟩) x5_2.length co24)) (rs_ HO_8.out) (Kd.R_typed HO_5.out) (by decide) hg); have n2_ := Aside0.mk ((by rw [hw]; exact below_set (HB.out) GB44.out : Below w.heap.size w w48)); clear HO_5; clear HO_8; clear HB; have HO_5 := n0_; have HO_8 := n1_; have HB := n2_; clear n0_ n1_ n2_; clear hg hw hp_)))
                 (try simp only [← hl5_2])
                 go_roundg k3
                 case measure => have := HK1.out; have := HK2.out; have := HK3.out; omega
                 case rel => exact ⟨(y119), (y117), (wrap64 (x9_2 - 1)), (by first | rfl | (simp; done) | (simp [*]; done)), H', ⟨by have := HK1.out; have := HK2.out; have := HK3.out; omega⟩, ⟨by (try simp only [hl5_2]); (with_reducible repeat (first | apply Kd.R_alloc | apply Kd.R_drewN | apply Kd.R_drew)); exact HO_5.out⟩, ⟨by (try simp only [hl5_2]); (with_reducible repeat (first | apply Kd.R_alloc | apply Kd.R_drewN | apply Kd.R_drew)); exact HO_8.out⟩, ⟨by repeat (first | (with_reducible first | exact HB.out | apply below_alloc | apply pw_below_drewN | apply below_drew1) | exact HB.out)⟩⟩
                ·rw [if_neg c43] at H
                 exact absurd H (by simp)
               ·rw [if_neg c41] at H
                exact absurd H (by simp)
              ·rw [if_neg c40] at H
               exact absurd H (by simp)
          ·rw [if_neg c25] at H
           have c25b0 : decide (0 < x9_2) = false := decide_eq_false c25
           clear c25
           obtain rfl := Option.some.inj H
           go_wp2
           repeat (go_quiet (fail); try go_wp2)
           go_ret
           exact ⟨_, by first | rfl | (simp [errW_none, errW_some] <;> rfl) | (simp [*, errW_none, errW_some] <;> rfl), by (with_reducible repeat (first | apply Kd.R_alloc | apply Kd.R_drewN | apply Kd.R_drew)); exact HO_5.out, by repeat (first | (with_reducible first | exact HB.out | apply below_alloc | apply pw_below_drewN | apply below_drew1) | exact HB.out)⟩
       ·rw [if_neg c20] at H
        exact absurd H (by simp)
      ·rw [if_neg c19] at H
       exact absurd H (by simp)
 ·rw [if_neg c3] at H
  exact absurd H (by simp)
/-! ### nacelleref01_SameInts: function 39 -/
def nacelleref01_SameInts.l0 : Nat → List Int → List Int → Int → Option (Bool)
 | 0, _, _, _ => none
 | k + 1, x0, x1, x5 => if x5 < (x0.length : Int) then (if 0 ≤ x5 then (if x5 < (x1.length : Int) then (if (rd x0 x5) = (rd x1 x5) then (nacelleref01_SameInts.l0 k x0 x1 (wrap64 (x5 + 1))) else (some false)) else (none)) else (none)) else (some true)
def nacelleref01_SameInts.f (k : Nat) (l0 : List Int) (l1 : List Int) : Option (Bool) := if (l0.length : Int) = (l1.length : Int) then (nacelleref01_SameInts.l0 k l0 l1 0) else (some false)
set_option maxHeartbeats 8000000 in
set_option maxRecDepth 100000 in
theorem nacelleref01_SameInts.calls (k : Nat) (A0 : Option Addr) (c0 : Nat) (l0 : List Int) (A1 : Option Addr) (c1 : Nat) (l1 : List Int) (r : Bool) (w : World) (hr0 : Kd.C (Kd.int .i64) w A0 l0.length l0) (hc0 : l0.length ≤ c0) (hr1 : Kd.C (Kd.int .i64) w A1 l1.length l1) (hc1 : l1.length ≤ c1) (h : nacelleref01_SameInts.f k l0 l1 = some r) :
  Calls Tryz.prog 39 #[.slice A0 l0.length c0, .slice A1 l1.length c1] w fun e w' => e = .returned (.bool r) ∧ Drawn0 w w' := by
 have HR0 := Aside0.mk hr0
 have HC0 := Aside0.mk hc0
 clear hr0 hc0
 have HR1 := Aside0.mk hr1
 have HC1 := Aside0.mk hc1
 clear hr1 hc1
 have H : (if (l0.length : Int) = (l1.length : Int) then (nacelleref01_SameInts.l0 k l0 l1 0) else (some false)) = some r := h
 clear h
 by_cases c3 : (l0.length : Int) = (l1.length : Int)
 ·rw [if_pos c3] at H
  have c3b0 : ((l0.length : Int) == (l1.length : Int)) = true := beq_iff_eq.mpr c3
  have c3b1 : ((l0.length : Int) != (l1.length : Int)) = false := bne_eq_false_iff_eq.mpr c3
  have c3b2 : (l0.length == l1.length) = true := by first | simpa using c3 | (simp at c3 ⊢; omega)
  clear c3
  have H' := Aside0.mk H
  clear H
  go_enter Tryz.func39, Tryz.ntmps39
  go_wp2
  repeat (go_quiet (fail); try go_wp2)
  go_loopg [5] k (fun kq v5 w' => ∃ (x5_1 : Int), v5 = .int .i64 x5_1 ∧ Aside0 (nacelleref01_SameInts.l0 kq l0 l1 x5_1 = some r) ∧ Aside0 (kq ≤ k) ∧ Drawn0 w w')
  case atStart => exact ⟨(0), (by first | rfl | (simp; done) | (simp [*]; done)), H', ⟨Nat.le_refl _⟩, by repeat (first | exact Drawn0.refl _ | apply Drawn0.step)⟩
  case round =>
   clear H'
   try clear c1
   try clear p2
   try clear c3
   try clear c3b0
   try clear c3b1
   try clear c3b2
   obtain ⟨x5_1, rfl, HA, HK1, ⟨m1, rfl⟩⟩ := hrel
   cases gk with
   | zero => exact absurd HA.out (by simp [nacelleref01_SameInts.l0])
   | succ k1 =>
    have H := HA.out
    clear HA
    simp only [nacelleref01_SameInts.l0] at H
    by_cases c4 : x5_1 < (l0.length : Int)
    ·rw [if_pos c4] at H
     have c4b0 : decide (x5_1 < (l0.length : Int)) = true := decide_eq_true c4
     clear c4
     by_cases c5 : 0 ≤ x5_1
     ·rw [if_pos c5] at H
      have c5b0 : decide (0 ≤ x5_1) = true := decide_eq_true c5
      clear c5
      by_cases c6 : x5_1 < (l1.length : Int)
      ·rw [if_pos c6] at H
       have c6b0 : decide (x5_1 < (l1.length : Int)) = true := decide_eq_true c6
       clear c6
       by_cases c7 : (rd l0 x5_1) = (rd l1 x5_1)
       ·rw [if_pos c7] at H
        have c7b0 : ((rd l0 x5_1) == (rd l1 x5_1)) = true := beq_iff_eq.mpr c7
        have c7b1 : ((rd l0 x5_1) != (rd l1 x5_1)) = false := bne_eq_false_iff_eq.mpr c7
        clear c7
        have H' := Aside0.mk H
        clear H
        have p101 : 0 ≤ (x5_1 : Int) := of_decide_eq_true (by first | (with_reducible assumption) | assumption)
        have q101 : x5_1 < (l0.length : Int) := of_decide_eq_true (by first | (with_reducible assumption) | assumption)
        obtain ⟨ad101, e101, hx101_0⟩ := Kd.at_int HR0.out x5_1 p101 q101
        cases e101
        replace p101 := eq_true p101
        replace q101 := eq_true q101
        have p102 : 0 ≤ (x5_1 : Int) := of_decide_eq_true (by first | (with_reducible assumption) | assumption)
        have q102 : x5_1 < (l1.length : Int) := of_decide_eq_true (by first | (with_reducible assumption) | assumption)
        obtain ⟨ad102, e102, hx102_0⟩ := Kd.at_int HR1.out x5_1 p102 q102
        cases e102
        replace p102 := eq_true p102
        replace q102 := eq_true q102
        go_wp2
        repeat (go_quiet (fail); try go_wp2)
        go_roundg k1
        case measure => have := HK1.out; omega
        case rel => exact ⟨(wrap64 (x5_1 + 1)), (by first | rfl | (simp; done) | (simp [*]; done)), H', ⟨by have := HK1.out; omega⟩, by repeat (first | exact Drawn0.refl _ | apply Drawn0.step)⟩
       ·rw [if_neg c7] at H
        have c7b0 : ((rd l0 x5_1) == (rd l1 x5_1)) = false := beq_eq_false_iff_ne.mpr c7
        have c7b1 : ((rd l0 x5_1) != (rd l1 x5_1)) = true := bne_iff_ne.mpr c7
        obtain rfl := Option.some.inj H
        have p101 : 0 ≤ (x5_1 : Int) := of_decide_eq_true (by first | (with_reducible assumption) | assumption)
        have q101 : x5_1 < (l0.length : Int) := of_decide_eq_true (by first | (with_reducible assumption) | assumption)
        obtain ⟨ad101, e101, hx101_0⟩ := Kd.at_int HR0.out x5_1 p101 q101
        cases e101
        replace p101 := eq_true p101
        replace q101 := eq_true q101
        have p102 : 0 ≤ (x5_1 : Int) := of_decide_eq_true (by first | (with_reducible assumption) | assumption)
        have q102 : x5_1 < (l1.length : Int) := of_decide_eq_true (by first | (with_reducible assumption) | assumption)
        obtain ⟨ad102, e102, hx102_0⟩ := Kd.at_int HR1.out x5_1 p102 q102
        cases e102
        replace p102 := eq_true p102
        replace q102 := eq_true q102
        go_wp2
        repeat (go_quiet (fail); try go_wp2)
        go_ret
        exact ⟨by first | rfl | (simp; done) | (simp [*]; done), by repeat (first | exact Drawn0.refl _ | apply Drawn0.step)⟩
      ·rw [if_neg c6] at H
       exact absurd H (by simp)
     ·rw [if_neg c5] at H
      exact absurd H (by simp)
    ·rw [if_neg c4] at H
     have c4b0 : decide (x5_1 < (l0.length : Int)) = false := decide_eq_false c4
     clear c4
     obtain rfl := Option.some.inj H
     go_wp2
     repeat (go_quiet (fail); try go_wp2)
     go_ret
     exact ⟨by first | rfl | (simp; done) | (simp [*]; done), by repeat (first | exact Drawn0.refl _ | apply Drawn0.step)⟩
 ·rw [if_neg c3] at H
  have c3b0 : ((l0.length : Int) == (l1.length : Int)) = false := beq_eq_false_iff_ne.mpr c3
  have c3b1 : ((l0.length : Int) != (l1.length : Int)) = true := bne_iff_ne.mpr c3
  have c3b2 : (l0.length == l1.length) = false := by first | simpa using c3 | (simp at c3 ⊢; omega)
  obtain rfl := Option.some.inj H
  go_enter Tryz.func39, Tryz.ntmps39
  go_wp2
  repeat (go_quiet (fail); try go_wp2)
  go_ret
  exact ⟨by first | rfl | (simp; done) | (simp [*]; done), by repeat (first | exact Drawn0.refl _ | apply Drawn0.step)⟩
/-! ### nacelleref01_First: function 88 -/
def nacelleref01_First.l0 : Nat → List Int → Int → Option (Int)
 | 0, _, _ => none
 | k + 1, x0, x3 => if x3 < (x0.length : Int) then (if 0 ≤ x3 then (if (rd x0 x3) = 0 then (nacelleref01_First.l0 k x0 (wrap64 (x3 + 1))) else (some (rd x0 x3))) else (none)) else (some 0)
def nacelleref01_First.f (k : Nat) (l0 : List Int) : Option (Int) := nacelleref01_First.l0 k l0 0
set_option maxHeartbeats 8000000 in
set_option maxRecDepth 100000 in
theorem nacelleref01_First.calls (k : Nat) (A0 : Option Addr) (c0 : Nat) (l0 : List Int) (r : Int) (w : World) (hr0 : Kd.C (Kd.int .i64) w A0 l0.length l0) (hc0 : l0.length ≤ c0) (h : nacelleref01_First.f k l0 = some r) :
  Calls Tryz.prog 88 #[.slice A0 l0.length c0] w fun e w' => e = .returned (.int .i64 r) ∧ Drawn0 w w' := by
 have HR0 := Aside0.mk hr0
 have HC0 := Aside0.mk hc0
 clear hr0 hc0
 have H : (nacelleref01_First.l0 k l0 0) = some r := h
 clear h
 have H' := Aside0.mk H
 clear H
 go_enter Tryz.func88, Tryz.ntmps88
 go_wp2
 go_loopg [3] k (fun kq v3 w' => ∃ (x3_1 : Int), v3 = .int .i64 x3_1 ∧ Aside0 (nacelleref01_First.l0 kq l0 x3_1 = some r) ∧ Aside0 (kq ≤ k) ∧ Drawn0 w w')
 case atStart => exact ⟨(0), (by first | rfl | (simp; done) | (simp [*]; done)), H', ⟨Nat.le_refl _⟩, by repeat (first | exact Drawn0.refl _ | apply Drawn0.step)⟩
 case round =>
  clear H'
  obtain ⟨x3_1, rfl, HA, HK1, ⟨m1, rfl⟩⟩ := hrel
  cases gk with
  | zero => exact absurd HA.out (by simp [nacelleref01_First.l0])
  | succ k1 =>
   have H := HA.out
   clear HA
   simp only [nacelleref01_First.l0] at H
   by_cases c2 : x3_1 < (l0.length : Int)
   ·rw [if_pos c2] at H
    have c2b0 : decide (x3_1 < (l0.length : Int)) = true := decide_eq_true c2
    clear c2
    by_cases c3 : 0 ≤ x3_1
    ·rw [if_pos c3] at H
     have c3b0 : decide (0 ≤ x3_1) = true := decide_eq_true c3
     clear c3
     by_cases c4 : (rd l0 x3_1) = 0
     ·rw [if_pos c4] at H
      have c4b0 : ((rd l0 x3_1) == 0) = true := beq_iff_eq.mpr c4
      have c4b1 : ((rd l0 x3_1) != 0) = false := bne_eq_false_iff_eq.mpr c4
      clear c4
      have H' := Aside0.mk H
      clear H
      have p101 : 0 ≤ (x3_1 : Int) := of_decide_eq_true (by first | (with_reducible assumption) | assumption)
      have q101 : x3_1 < (l0.length : Int) := of_decide_eq_true (by first | (with_reducible assumption) | assumption)
      obtain ⟨ad101, e101, hx101_0⟩ := Kd.at_int HR0.out x3_1 p101 q101
      cases e101
      replace p101 := eq_true p101
      replace q101 := eq_true q101
      go_wp2
      go_roundg k1
      case measure => have := HK1.out; omega
      case rel => exact ⟨(wrap64 (x3_1 + 1)), (by first | rfl | (simp; done) | (simp [*]; done)), H', ⟨by have := HK1.out; omega⟩, by repeat (first | exact Drawn0.refl _ | apply Drawn0.step)⟩
     ·rw [if_neg c4] at H
      have c4b0 : ((rd l0 x3_1) == 0) = false := beq_eq_false_iff_ne.mpr c4
      have c4b1 : ((rd l0 x3_1) != 0) = true := bne_iff_ne.mpr c4
      obtain rfl := Option.some.inj H
      have p101 : 0 ≤ (x3_1 : Int) := of_decide_eq_true (by first | (with_reducible assumption) | assumption)
      have q101 : x3_1 < (l0.length : Int) := of_decide_eq_true (by first | (with_reducible assumption) | assumption)
      obtain ⟨ad101, e101, hx101_0⟩ := Kd.at_int HR0.out x3_1 p101 q101
      cases e101
      replace p101 := eq_true p101
      replace q101 := eq_true q101
      have p102 : 0 ≤ (x3_1 : Int) := of_decide_eq_true (by first | (with_reducible assumption) | assumption)
      have q102 : x3_1 < (l0.length : Int) := of_decide_eq_true (by first | (with_reducible assumption) | assumption)
      obtain ⟨ad102, e102, hx102_0⟩ := Kd.at_int HR0.out x3_1 p102 q102
      obtain rfl : ad101 = ad102 := (by injection e102)
      replace p102 := eq_true p102
      replace q102 := eq_true q102
      go_wp2
      go_ret
      exact ⟨by first | rfl | (simp; done) | (simp [*]; done), by repeat (first | exact Drawn0.refl _ | apply Drawn0.step)⟩
    ·rw [if_neg c3] at H
     exact absurd H (by simp)
   ·rw [if_neg c2] at H
    have c2b0 : decide (x3_1 < (l0.length : Int)) = false := decide_eq_false c2
    clear c2
    obtain rfl := Option.some.inj H
    go_wp2
    go_ret
    exact ⟨by first | rfl | (simp; done) | (simp [*]; done), by repeat (first | exact Drawn0.refl _ | apply Drawn0.step)⟩
/-! ### nacellelaw08_first: function 20 -/
def nacellelaw08_first.f (k : Nat) (l0 : List Int) : Option (Int) := (nacelleref01_First.f k l0).bind fun t101 => (some t101)
set_option maxHeartbeats 8000000 in
set_option maxRecDepth 100000 in
theorem nacellelaw08_first.calls (k : Nat) (A0 : Option Addr) (c0 : Nat) (l0 : List Int) (r : Int) (w : World) (hr0 : Kd.C (Kd.int .i64) w A0 l0.length l0) (hc0 : l0.length ≤ c0) (h : nacellelaw08_first.f k l0 = some r) :
  Calls Tryz.prog 20 #[.slice A0 l0.length c0] w fun e w' => e = .returned (.int .i64 r) ∧ Drawn0 w w' := by
 have HR0 := Aside0.mk hr0
 have HC0 := Aside0.mk hc0
 clear hr0 hc0
 have H : ((nacelleref01_First.f k l0).bind fun t101 => (some t101)) = some r := h
 clear h
 replace H := Option.bind_eq_some_iff.mp H
 obtain ⟨t101, A20, H⟩ := H
 replace H : (some t101) = some r := H
 have A2 := Aside0.mk A20
 clear A20
 obtain rfl := Option.some.inj H
 go_enter Tryz.func20, Tryz.ntmps20
 go_wp2_with (first | ((with_reducible refine gate_callee (f := 88) rfl ?_); refine gl_ (some 4) Tryz.func88 #[.slice A0 l0.length c0] ?_; (with_reducible refine (nacelleref01_First.calls k _ _ l0 t101 _ ?side1 ?side2 A2.out).mono ?_); (case side1 => exact cs_ HR0.out); (case side2 => exact HC0.out); rintro e w' ⟨rfl, ⟨nd, rfl⟩⟩; refine ⟨_, rfl, ?_⟩))
 go_ret
 exact ⟨by first | rfl | (simp; done) | (simp [*]; done), by repeat (first | exact Drawn0.refl _ | apply Drawn0.step)⟩
/-! ### nacelleref08_CheckRange: function 22 -/
def nacelleref08_CheckRange.f (a0 : Int) (a1 : Int) (a2 : Int) : Option (Int) := (nacelleref08_Outside.f a0 a1 a2).bind fun t101 => (if t101 = true then (some 3) else (some 0))
set_option maxHeartbeats 8000000 in
set_option maxRecDepth 100000 in
theorem nacelleref08_CheckRange.calls (a0 : Int) (a1 : Int) (a2 : Int) (r : Int) (w : World) (h : nacelleref08_CheckRange.f a0 a1 a2 = some r) :
  Calls Tryz.prog 22 #[.int .i64 a0, .int .i64 a1, .int .i64 a2] w fun e w' => e = .returned (.int .i64 r) ∧ Drawn0 w w' := by
 have H : ((nacelleref08_Outside.f a0 a1 a2).bind fun t101 => (if t101 = true then (some 3) else (some 0))) = some r := h
 clear h
 replace H := Option.bind_eq_some_iff.mp H
 obtain ⟨t101, A40, H⟩ := H
 replace H : (if t101 = true then (some 3) else (some 0)) = some r := H
 have A4 := Aside0.mk A40
 clear A40
 by_cases c5 : t101 = true
 ·subst c5
  have H1 : (some 3) = some r := by rw [if_pos rfl] at H; exact H
  clear H
  have H := H1
  clear H1
  obtain rfl := Option.some.inj H
  go_enter Tryz.func22, Tryz.ntmps22
  go_wp2_with (first | ((with_reducible refine gate_callee (f := 89) rfl ?_); refine gl_ (some 10) Tryz.func89 #[.int .i64 a0, .int .i64 a1, .int .i64 a2] ?_; (with_reducible refine (nacelleref08_Outside.calls a0 a1 a2 true _ A4.out).mono ?_); rintro e w' ⟨rfl, ⟨nd, rfl⟩⟩; refine ⟨_, rfl, ?_⟩))
  go_ret
  exact ⟨by first | rfl | (simp; done) | (simp [*]; done), by repeat (first | exact Drawn0.refl _ | apply Drawn0.step)⟩
 ·replace c5 := Bool.eq_false_iff.mpr c5
  subst c5
  have H1 : (some 0) = some r := by rw [if_neg (show ¬ (false = true) by decide)] at H; exact H
  clear H
  have H := H1
  clear H1
  obtain rfl := Option.some.inj H
  go_enter Tryz.func22, Tryz.ntmps22
  go_wp2_with (first | ((with_reducible refine gate_callee (f := 89) rfl ?_); refine gl_ (some 10) Tryz.func89 #[.int .i64 a0, .int .i64 a1, .int .i64 a2] ?_; (with_reducible refine (nacelleref08_Outside.calls a0 a1 a2 false _ A4.out).mono ?_); rintro e w' ⟨rfl, ⟨nd, rfl⟩⟩; refine ⟨_, rfl, ?_⟩))
  go_ret
  exact ⟨by first | rfl | (simp; done) | (simp [*]; done), by repeat (first | exact Drawn0.refl _ | apply Drawn0.step)⟩
end Go.Proofs.YtfdlhbdcejlopaaGreatDoor.B
namespace Go.Proofs.YtfdlhbdcejlopaaGreatDoor.B
open Go.RowKit Go.Proofs.YtfdlhbdcejlopaaGreatDoorW.PrintWords Go.Proofs.YtfdlhbdcejlopaaGreatDoorW.PrintLast Go.Proofs.YtfdlhbdcejlopaaGreatDoorW.PrintMore
set_option linter.unusedVariables false
def Len {α : Type} (l : List α) : Prop := l.length ≤ 1000000
theorem ev_first {l : List Int} (hl : Len l) : Ev (fun k => market_first.f k l) (firstV l) := by
 unfold market_first.f
 suffices h : ∀ (d p : List Int), l = p ++ d → Ev (fun k => market_first.l0 k l l.length p.length) (firstV d) from h l [] rfl
 intro d
 induction d with
 | nil => intro p e; exact Ev.step (Ev.of fun k => by simp only [market_first.l0, if_neg (len_end e), firstV])
 | cons x d ih =>
  intro p e
  refine Ev.step ?_
  simp only [market_first.l0, if_pos (len_at e), if_pos (Int.natCast_nonneg p.length), rd_at e, w_next e (Nat.le_trans hl (by decide)), firstV]
  by_cases hx : x = 0
  ·simp only [if_pos hx]
   exact ih _ (next_at e)
  ·simp only [if_neg hx]
   exact Ev.const _
theorem ev_First {l : List Int} (hl : Len l) : Ev (fun k => nacelleref01_First.f k l) (firstV l) := by
 unfold nacelleref01_First.f
 suffices h : ∀ (d p : List Int), l = p ++ d → Ev (fun k => nacelleref01_First.l0 k l p.length) (firstV d) from h l [] rfl
 intro d
 induction d with
 | nil => intro p e; exact Ev.step (Ev.of fun k => by simp only [nacelleref01_First.l0, if_neg (len_end e), firstV])
 | cons x d ih =>
  intro p e
  refine Ev.step ?_
  simp only [nacelleref01_First.l0, if_pos (len_at e), if_pos (Int.natCast_nonneg p.length), rd_at e, w_next e (Nat.le_trans hl (by decide)), firstV]
  by_cases hx : x = 0
  ·simp only [if_pos hx]
   exact ih _ (next_at e)
  ·simp only [if_neg hx]
   exact Ev.const _
theorem ev_lfirst {l : List Int} (hl : Len l) : Ev (fun k => nacellelaw08_first.f k l) (firstV l) := by
 unfold nacellelaw08_first.f
 exact Ev.bind (ev_First hl) (Ev.const _)
theorem ev_sum {l : List Int} (hl : Len l) : Ev (fun k => market_sum.f k l) (sumW l) := by
 unfold market_sum.f sumW
 suffices h : ∀ (d p : List Int) (a : Int), l = p ++ d → Ev (fun k => market_sum.l0 k a l l.length p.length) (d.foldl (fun a x => wrap64 (a + x)) a) from h l [] 0 rfl
 intro d
 induction d with
 | nil => intro p a e; exact Ev.step (Ev.of fun k => by simp only [market_sum.l0, if_neg (len_end e), List.foldl_nil])
 | cons x d ih =>
  intro p a e
  refine Ev.step ?_
  simp only [market_sum.l0, if_pos (len_at e), if_pos (Int.natCast_nonneg p.length), rd_at e, w_next e (Nat.le_trans hl (by decide)), List.foldl_cons]
  exact ih _ _ (next_at e)
theorem ev_total {l : List Int} (hl : Len l) : Ev (fun k => nacelleref08_total.f k l) (sumW l) := by
 unfold nacelleref08_total.f sumW
 suffices h : ∀ (d p : List Int) (a : Int), l = p ++ d → Ev (fun k => nacelleref08_total.l0 k l a p.length) (d.foldl (fun a x => wrap64 (a + x)) a) from h l [] 0 rfl
 intro d
 induction d with
 | nil => intro p a e; exact Ev.step (Ev.of fun k => by simp only [nacelleref08_total.l0, if_neg (len_end e), List.foldl_nil])
 | cons x d ih =>
  intro p a e
  refine Ev.step ?_
  simp only [nacelleref08_total.l0, if_pos (len_at e), if_pos (Int.natCast_nonneg p.length), rd_at e, w_next e (Nat.le_trans hl (by decide)), List.foldl_cons]
  exact ih _ _ (next_at e)
theorem ev_same {l : List Int} (hl : Len l) : Ev (fun k => nacelleref01_SameInts.f k l l) true := by
 unfold nacelleref01_SameInts.f
 simp only [if_true]
 suffices h : ∀ (d p : List Int), l = p ++ d → Ev (fun k => nacelleref01_SameInts.l0 k l l p.length) true from h l [] rfl
 intro d
 induction d with
 | nil => intro p e; exact Ev.step (Ev.of fun k => by simp only [nacelleref01_SameInts.l0, if_neg (len_end e)])
 | cons x d ih =>
  intro p e
  refine Ev.step ?_
  simp only [nacelleref01_SameInts.l0, if_pos (len_at e), if_pos (Int.natCast_nonneg p.length), if_true, w_next e (Nat.le_trans hl (by decide))]
  exact ih _ (next_at e)
theorem numbers_eq {l : List Int} (hl : Len l) : nacellelaw08_numbers.f l = some l := by
 unfold nacellelaw08_numbers.f
 have : ([] : List Int).length + l.length < 17592186044416 := by unfold Len at hl; simp; omega
 rw [Option.bind_some, if_pos this, List.nil_append]
theorem when_eq (c : Bool) (n : Int) : market_when.f c n = some (if c = true then n else 0) := by unfold market_when.f; split <;> rfl
def inV (m x : Int) : Int := if 0 ≤ x ∧ x ≤ m then 0 else 3
theorem within_eq (m x : Int) : market_within.f x 0 m = some (inV m x) := by
 unfold market_within.f
 have e1 : inV m x = if 0 ≤ x ∧ x ≤ m then 0 else 3 := rfl
 by_cases h : x < 0
 ·rw [if_pos h, when_eq, e1, if_neg (by omega : ¬ (0 ≤ x ∧ x ≤ m))]; rfl
 ·rw [if_neg h, when_eq]
  by_cases h2 : x > m
  ·rw [e1, if_neg (by omega : ¬ (0 ≤ x ∧ x ≤ m)), decide_eq_true h2]; rfl
  ·rw [e1, if_pos (by omega : 0 ≤ x ∧ x ≤ m), decide_eq_false h2]; rfl
theorem checkEnergy_eq (x : Int) : market_checkEnergy.f x = some (inV 100000 x) := by unfold market_checkEnergy.f; rw [within_eq]; rfl
theorem checkTotal_eq (x : Int) : market_checkTotal.f x = some (inV 6400000 x) := by unfold market_checkTotal.f; rw [within_eq]; rfl
theorem outside_eq (m x : Int) : nacelleref08_Outside.f x 0 m = some (decide (¬ (0 ≤ x ∧ x ≤ m))) := by
 unfold nacelleref08_Outside.f
 by_cases h : x < 0
 ·rw [if_pos h]; congr 1; exact (decide_eq_true (by omega)).symm
 ·rw [if_neg h]; congr 1; exact decide_eq_decide.2 (by omega)
theorem range_eq (m x : Int) : nacelleref08_CheckRange.f x 0 m = some (inV m x) := by
 unfold nacelleref08_CheckRange.f inV
 rw [outside_eq]
 by_cases h : 0 ≤ x ∧ x ≤ m
 ·simp [h]
 ·rw [if_neg h]; simp only [Option.bind_some, decide_eq_true h, if_true]
def eachV (m : Int) (l : List Int) : Int := if l.all (fun x => decide (0 ≤ x ∧ x ≤ m)) = true then 0 else 3
theorem firstV_map (m : Int) (l : List Int) : firstV (l.map (inV m)) = eachV m l := by
 induction l with
 | nil => rfl
 | cons x l ih =>
  unfold eachV at ih ⊢
  rw [List.map_cons, firstV, ih, List.all_cons]
  unfold inV
  by_cases h : 0 ≤ x ∧ x ≤ m
  ·simp [h]
  ·rw [if_neg h]; simp [h]
theorem ev_energies {l : List Int} (hl : Len l) : Ev (fun k => api_Errno_92__market_checkEnergy.f k l ()) (l.map (inV 100000)) := by
 unfold api_Errno_92__market_checkEnergy.f
 suffices h : ∀ (d p a : List Int), l = p ++ d → a.length = p.length → Ev (fun k => api_Errno_92__market_checkEnergy.l0 k a l l.length p.length) (a ++ d.map (inV 100000)) from (h l [] [] rfl rfl).val (by simp)
 intro d
 induction d with
 | nil => intro p a e ea; exact Ev.step (Ev.of fun k => by simp only [api_Errno_92__market_checkEnergy.l0, if_neg (len_end e), List.map_nil, List.append_nil])
 | cons x d ih =>
  intro p a e ea
  have hb : a.length < 17592186044416 := by
   have := len_at e
   unfold Len at hl
   omega
  refine Ev.step ?_
  simp only [api_Errno_92__market_checkEnergy.l0, if_pos (len_at e), if_pos (Int.natCast_nonneg p.length), rd_at e, w_next e (Nat.le_trans hl (by decide)), checkEnergy_eq, Option.bind_some, if_pos hb]
  exact (ih (p ++ [x]) (a ++ [inV 100000 x]) (next_at e) (by simp [ea])).val (by simp)
theorem ev_each {l : List Int} (hl : Len l) (n m : Int) : Ev (fun k => nacelleref08_CheckEach.f k l n m) (if (l.length : Int) > n then 5 else eachV m l) := by
 unfold nacelleref08_CheckEach.f
 by_cases hn : (l.length : Int) > n
 ·simp only [if_pos hn]; exact Ev.const _
 ·simp only [if_neg hn]
  suffices h : ∀ (d p : List Int), l = p ++ d → Ev (fun k => nacelleref08_CheckEach.l0 k l m p.length) (eachV m d) from h l [] rfl
  intro d
  induction d with
  | nil => intro p e; exact Ev.step (Ev.of fun k => by simp only [nacelleref08_CheckEach.l0, if_neg (len_end e)]; rfl)
  | cons x d ih =>
   intro p e
   refine Ev.step ?_
   simp only [nacelleref08_CheckEach.l0, if_pos (len_at e), if_pos (Int.natCast_nonneg p.length), rd_at e, w_next e (Nat.le_trans hl (by decide)), outside_eq, Option.bind_some]
   by_cases hx : 0 ≤ x ∧ x ≤ m
   ·simp only [decide_eq_false (fun h => h hx : ¬ ¬ (0 ≤ x ∧ x ≤ m)), Bool.false_eq_true, if_false]
    exact (ih _ (next_at e)).val (by unfold eachV; simp [hx])
   ·simp only [decide_eq_true hx, if_true]
    exact (Ev.const _).val (by unfold eachV; simp [hx])
end Go.Proofs.YtfdlhbdcejlopaaGreatDoor.B
namespace Go.Proofs.YtfdlhbdcejlopaaGreatDoor.B
open Go.RowKit Go.Proofs.YtfdlhbdcejlopaaGreatDoorW.PrintWords Go.Proofs.YtfdlhbdcejlopaaGreatDoorW.PrintLast Go.Proofs.YtfdlhbdcejlopaaGreatDoorW.PrintMore
set_option linter.unusedVariables false
set_option linter.unusedSimpArgs false
def cutV (L T x : Int) : Int := wrap64 (Int.tdiv (wrap64 (x * L)) T)
def leftV (L T x : Int) : Int := Int.tmod (wrap64 (x * L)) T
def partsV (L T : Int) : Nat → List Int → List S221
 | _, [] => []
 | j, x :: l => ⟨j, leftV L T x⟩ :: partsV L T (j + 1) l
theorem partsV_snoc (L T : Int) (l : List Int) (x : Int) : ∀ j, partsV L T j (l ++ [x]) = partsV L T j l ++ [⟨((j + l.length : Nat) : Int), leftV L T x⟩] := by
 induction l with
 | nil => intro j; rfl
 | cons y l ih => intro j; simp only [List.cons_append, partsV, ih, List.length_cons]; rw [show j + 1 + l.length = j + (l.length + 1) from by omega]
theorem partsV_length (L T : Int) (l : List Int) : ∀ j, (partsV L T j l).length = l.length := by
 induction l with
 | nil => intro j; rfl
 | cons y l ih => intro j; simp [partsV, ih]
theorem mem_partsV (L T : Int) (l : List Int) : ∀ j (p : S221), p ∈ partsV L T j l ↔ ∃ i : Nat, ∃ h : i < l.length, p = ⟨((j + i : Nat) : Int), leftV L T (l[i]'h)⟩ := by
 induction l with
 | nil => intro j p; simp [partsV]
 | cons x l ih =>
  intro j p
  simp only [partsV, List.mem_cons, ih]
  constructor
  ·rintro (rfl | ⟨i, h, rfl⟩)
   ·exact ⟨0, by simp, rfl⟩
   ·exact ⟨i + 1, by simpa using h, by simp; omega⟩
  ·rintro ⟨i, h, rfl⟩
   cases i with
   | zero => exact .inl rfl
   | succ i => exact .inr ⟨i, by simpa using h, by simp; omega⟩
def bump (x5 : List Int) (p : S221) : List Int := x5.set p.f0.toNat (wrap64 (rd x5 p.f0 + 1))
theorem bump_length (x5 : List Int) (p : S221) : (bump x5 p).length = x5.length := by simp [bump]
theorem bumps_length (ps : List S221) : ∀ x5 : List Int, (ps.foldl bump x5).length = x5.length := by
 induction ps with
 | nil => intro x5; rfl
 | cons p ps ih => intro x5; rw [List.foldl_cons, ih, bump_length]
def givenV (L T : Int) (l : List Int) : List Int := l.map (cutV L T)
def orderV (L T : Int) (l : List Int) : List S221 := isortP (partsV L T 0 l)
def spareV (L T : Int) (l : List Int) : Int := wrap64 (L - sumW (givenV L T l))
def curtailV (L T : Int) (l : List Int) : List Int := ((orderV L T l).take (spareV L T l).toNat).foldl bump (givenV L T l)
theorem order_mem {L T : Int} {l : List Int} {p : S221} (h : p ∈ orderV L T l) : ∃ i : Nat, ∃ h : i < l.length, p = ⟨(i : Int), leftV L T (l[i]'h)⟩ := by
 have := (mem_partsV L T l 0 p).1 ((isortP_perm _).mem_iff.1 h)
 simpa using this
theorem order_has {L T : Int} {l : List Int} (i : Nat) (h : i < l.length) : (⟨(i : Int), leftV L T (l[i]'h)⟩ : S221) ∈ orderV L T l :=
 (isortP_perm _).mem_iff.2 ((mem_partsV L T l 0 _).2 ⟨i, h, by simp⟩)
theorem order_length (L T : Int) (l : List Int) : (orderV L T l).length = l.length := by
 unfold orderV
 rw [isortP_length, partsV_length]
/-! ### The program -/
theorem ev_bumps (x5 : List Int) (n : Nat) : ∀ (d p xs : List S221), p ++ d = xs → Len xs → (∀ q ∈ d, 0 ≤ q.f0 ∧ q.f0 < n) → ∀ x5 : List Int, x5.length = n → Ev (fun k => market_shared.l1 k x5 xs xs.length p.length) (d.foldl bump x5) := by
 intro d
 induction d with
 | nil =>
  intro p xs e hl hd x5 h5
  exact Ev.step (Ev.of fun k => by simp only [market_shared.l1, if_neg (len_end e.symm), List.foldl_nil])
 | cons q d ih =>
  intro p xs e hl hd x5 h5
  have hq := hd q (by simp)
  refine Ev.step ?_
  have er : rd_T221 xs (p.length : Int) = q := getD_at e.symm
  simp only [market_shared.l1, if_pos (len_at e.symm), if_pos (Int.natCast_nonneg p.length), er, idI.f, Option.bind_some, if_pos hq.1, h5, if_pos hq.2, w_next e.symm (Nat.le_trans hl (by decide)), List.foldl_cons]
  exact ih (p ++ [q]) xs (by simp [← e]) hl (fun y hy => hd y (by simp [hy])) (bump x5 q) (by rw [bump_length, h5])
theorem ev_shared {L : Int} {l : List Int} (hl : Len l) (hT : sumW l > L) (h0 : sumW l ≠ 0) (hne : l ≠ []) (hs : 0 ≤ spareV L (sumW l) l ∧ spareV L (sumW l) l ≤ l.length) : Ev (fun k => market_shared.f k l L) (curtailV L (sumW l) l) := by
 unfold market_shared.f
 simp only [numbers_eq hl, Option.bind_some]
 refine Ev.bind (ev_sum hl) ?_
 simp only [if_neg (by omega : ¬ sumW l ≤ L)]
 generalize hT' : sumW l = T at *
 suffices h : ∀ (d p : List Int), l = p ++ d → Ev (fun k => market_shared.l0 k L (p.map (cutV L T) ++ d) T (partsV L T 0 p) l l.length p.length) (curtailV L T l) from h l [] rfl
 intro d
 induction d with
 | nil =>
  intro p e
  obtain rfl : l = p := by simpa using e
  refine Ev.step ?_
  have hb : (partsV L T 0 l).length < 17592186044416 ∧ partsV L T 0 l ≠ [] := by
   refine ⟨by rw [partsV_length]; unfold Len at hl; omega, fun h => hne ?_⟩
   have := congrArg List.length h
   rw [partsV_length] at this
   exact List.length_eq_zero_iff.1 this
  have hg : Len (givenV L T l) := by unfold Len givenV at *; simpa using hl
  simp only [market_shared.l0, if_neg (len_end e), sortedParts.f, if_pos hb, Option.bind_some, List.append_nil]
  refine Ev.bind (ev_sum hg) ?_
  have hs1 : 0 ≤ wrap64 (L - sumW (givenV L T l)) := hs.1
  have hs2 : wrap64 (L - sumW (givenV L T l)) ≤ (((isortP (partsV L T 0 l)).length : Nat) : Int) := by
   have := order_length L T l
   unfold orderV at this
   rw [this]
   exact hs.2
  unfold givenV at hs1 hs2
  simp only [if_pos hs1, if_pos hs2]
  refine (ev_bumps (givenV L T l) l.length _ [] _ rfl ?_ (fun q hq => ?_) _ (by simp [givenV])).val rfl
  ·unfold Len
   rw [List.nil_append, List.length_take]
   have := order_length L T l
   unfold orderV at this
   unfold Len at hl
   omega
  ·obtain ⟨i, hi, rfl⟩ := order_mem (List.mem_of_mem_take hq)
   exact ⟨by simp, by simpa using hi⟩
 | cons x d ih =>
  intro p e
  refine Ev.step ?_
  have h5 : (p.length : Int) < (((p.map (cutV L T) ++ x :: d).length : Nat) : Int) := by simp; omega
  have h7 : (partsV L T 0 p).length < 8796093022208 := by
   have := len_at e
   rw [partsV_length]
   unfold Len at hl
   omega
  simp only [market_shared.l0, if_pos (len_at e), if_pos (Int.natCast_nonneg p.length), if_neg h0, if_pos h5, if_pos h7, rd_at e, w_next e (Nat.le_trans hl (by decide))]
  refine (ih (p ++ [x]) (next_at e)).congr fun k => ?_
  congr 1
  ·simp [cutV]
  ·rw [partsV_snoc]; simp [leftV]
/-! ### The reference -/
def restV (L T : Int) (l : List Int) (j : Int) : Int := Int.tmod (wrap64 (rd l j * L)) T
theorem ev_scan {L T : Int} {l x5 : List Int} {x8 : List Bool} {v : List Int} (hl : Len l) (h0 : T ≠ 0) (h8 : x8.length = l.length) (h5 : x5.length = l.length) (s : Nat) (hs : s < l.length) (hs8 : x8.getD s false = false)
  (hb : ∀ j : Nat, j < l.length → x8.getD j false = false → j = s ∨ restV L T l j < restV L T l s ∨ (restV L T l j = restV L T l s ∧ s < j)) (x9 : Int)
  (hgo : Ev (fun k => nacelleref08_Curtail.l1 k l L (x5.set s (wrap64 (rd x5 s + 1))) T (x8.set s true) (wrap64 (x9 - 1))) v) :
  ∀ (m t : Nat) (b : Int), t + m = l.length → ((t ≤ s ∧ (b < 0 ∨ (0 ≤ b ∧ b < l.length ∧ restV L T l b < restV L T l s))) ∨ (s < t ∧ b = s)) → Ev (fun k => nacelleref08_Curtail.l2 k l L x5 T x8 x9 b t) v := by
 intro m
 induction m with
 | zero =>
  intro t b ht hst
  obtain ⟨_, rfl⟩ : s < t ∧ b = s := hst.resolve_left (fun h => by omega)
  refine Ev.step ?_
  simp only [nacelleref08_Curtail.l2, if_neg (by omega : ¬ ((t : Int) < (l.length : Int))), if_pos (Int.natCast_nonneg s), h8, h5, if_pos (by omega : (s : Int) < (l.length : Int)), Int.toNat_natCast]
  exact hgo
 | succ m ih =>
  intro t b ht hst
  refine Ev.step ?_
  have hw : wrap64 ((t : Int) + 1) = ((t + 1 : Nat) : Int) := by unfold Len at hl; rw [w64in _ (by omega)]; omega
  simp only [nacelleref08_Curtail.l2, if_pos (by omega : (t : Int) < (l.length : Int)), if_pos (Int.natCast_nonneg t), h8, hw]
  have e8 : rdOf false x8 (t : Int) = x8.getD t false := by simp [rdOf]
  rw [e8]
  by_cases hm : x8.getD t false = true
  ·simp only [if_pos hm]
   have : t ≠ s := fun e => by rw [e, hs8] at hm; cases hm
   exact ih (t + 1) b (by omega) (hst.imp (fun h => ⟨by omega, h.2⟩) (fun h => ⟨by omega, h.2⟩))
  ·simp only [if_neg hm]
   have hj := hb t (by omega) (by simpa using hm)
   by_cases hneg : b < 0
   ·simp only [if_pos hneg]
    refine ih (t + 1) t (by omega) ?_
    rcases hst with ⟨h1, _⟩ | ⟨h1, h2⟩
    ·rcases hj with rfl | hj | hj
     ·exact .inr ⟨by omega, rfl⟩
     ·rcases Nat.lt_or_ge t s with h | h
      ·exact .inl ⟨by omega, .inr ⟨by omega, by omega, hj⟩⟩
      ·obtain rfl : t = s := by omega
       omega
     ·omega
    ·omega
   ·have hb2 : 0 ≤ b ∧ b < (l.length : Int) := by
     rcases hst with ⟨h1, h | h⟩ | ⟨h1, h⟩
     ·omega
     ·exact ⟨h.1, h.2.1⟩
     ·omega
    simp only [if_neg hneg, if_neg h0, if_pos hb2.1, if_pos hb2.2]
    by_cases hgt : Int.tmod (wrap64 (rd l t * L)) T > Int.tmod (wrap64 (rd l b * L)) T
    ·simp only [if_pos hgt]
     refine ih (t + 1) t (by omega) ?_
     have hgt' : restV L T l b < restV L T l t := hgt
     rcases hst with ⟨h1, _⟩ | ⟨h1, rfl⟩
     ·rcases hj with rfl | hj | hj
      ·exact .inr ⟨by omega, rfl⟩
      ·rcases Nat.lt_or_ge t s with h | h
       ·exact .inl ⟨by omega, .inr ⟨by omega, by omega, hj⟩⟩
       ·obtain rfl : t = s := by omega
        omega
      ·omega
     ·rcases hj with rfl | hj | hj <;> omega
    ·simp only [if_neg hgt]
     have hgt' : ¬ restV L T l b < restV L T l t := hgt
     refine ih (t + 1) b (by omega) ?_
     rcases hst with ⟨h1, h | h⟩ | ⟨h1, h⟩
     ·omega
     ·rcases hj with rfl | hj | hj
      ·omega
      ·refine .inl ⟨?_, .inr h⟩
       rcases Nat.lt_or_ge t s with h | h
       ·omega
       ·obtain rfl : t = s := by omega
        omega
      ·omega
     ·exact .inr ⟨by omega, h⟩
theorem set_getD (x8 : List Bool) (s j : Nat) (h : s < x8.length) : (x8.set s true).getD j false = if j = s then true else x8.getD j false := by
 simp only [List.getD_eq_getElem?_getD, List.getElem?_set]
 by_cases e : s = j
 ·subst e; simp [h]
 ·simp [e, show ¬ j = s from fun h => e h.symm]
theorem ev_picks {L T : Int} {l : List Int} (hl : Len l) (h0 : T ≠ 0) : ∀ (B A : List S221), orderV L T l = A ++ B → ∀ (c : Nat) (x5 : List Int) (x8 : List Bool), c ≤ B.length → x8.length = l.length → x5.length = l.length →
  (∀ j : Nat, j < l.length → (x8.getD j false = true ↔ ∃ p ∈ A, p.f0 = j)) → Ev (fun k => nacelleref08_Curtail.l1 k l L x5 T x8 (c : Int)) ((B.take c).foldl bump x5) := by
 intro B
 induction B with
 | nil =>
  intro A hA c x5 x8 hc h8 h5 hm
  obtain rfl : c = 0 := by simpa using hc
  exact Ev.step (Ev.of fun k => by simp [nacelleref08_Curtail.l1])
 | cons p B ih =>
  intro A hA c x5 x8 hc h8 h5 hm
  cases c with
  | zero => exact Ev.step (Ev.of fun k => by simp [nacelleref08_Curtail.l1])
  | succ c =>
   have hsort := isortP_sorted (partsV L T 0 l)
   change (orderV L T l).Pairwise leP at hsort
   rw [hA] at hsort
   have hin : ∀ q, q ∈ A ++ p :: B → ∃ i : Nat, ∃ h : i < l.length, q = ⟨(i : Int), leftV L T (l[i]'h)⟩ := fun q hq => order_mem (hA ▸ hq)
   have hnd : (orderV L T l).Nodup := (isortP_perm _).nodup_iff.2 (by
    suffices h : ∀ (l : List Int) (j : Nat), (partsV L T j l).Nodup from h l 0
    intro l
    induction l with
    | nil => intro j; simp [partsV]
    | cons x l ih =>
     intro j
     refine List.nodup_cons.2 ⟨fun h => ?_, ih (j + 1)⟩
     obtain ⟨i, _, e⟩ := (mem_partsV L T l (j + 1) _).1 h
     have := congrArg S221.f0 e
     simp at this
     omega)
   rw [hA] at hnd
   have hp : ¬ p ∈ A := fun h => by
    have := (List.nodup_append.1 hnd).2.2 p h p (by simp)
    exact this rfl
   obtain ⟨s, hs, rfl⟩ := hin p (by simp)
   have hinj : ∀ q ∈ A ++ (⟨(s : Int), leftV L T (l[s]'hs)⟩ : S221) :: B, q.f0 = (s : Int) → q = ⟨(s : Int), leftV L T (l[s]'hs)⟩ := fun q hq e => by
    obtain ⟨i, hi, rfl⟩ := hin q hq
    have : i = s := Int.ofNat_inj.1 e
    subst this
    rfl
   have hs8 : x8.getD s false = false := by
    cases h : x8.getD s false with
    | false => rfl
    | true =>
     obtain ⟨q, hq, e⟩ := (hm s hs).1 h
     exact absurd (hinj q (by simp [hq]) e ▸ hq) hp
   have hrest : ∀ i : Nat, ∀ h : i < l.length, restV L T l i = leftV L T (l[i]'h) := fun i h => by
    unfold restV leftV rd
    rw [Int.toNat_natCast, List.getD_eq_getElem?_getD, List.getElem?_eq_getElem h]
    rfl
   refine Ev.step ?_
   have hw : wrap64 (((c + 1 : Nat) : Int) - 1) = (c : Int) := by
    have h1 : (A ++ (⟨(s : Int), leftV L T (l[s]'hs)⟩ : S221) :: B).length = l.length := by rw [← hA, order_length]
    rw [List.length_append] at h1
    unfold Len at hl
    rw [w64in _ (by omega)]
    omega
   simp only [nacelleref08_Curtail.l1, if_pos (by omega : ((c + 1 : Nat) : Int) > 0)]
   refine ev_scan hl h0 h8 h5 s hs hs8 (fun j hj hj8 => ?_) ((c + 1 : Nat) : Int) ?_ l.length 0 (-1) (by omega) (.inl ⟨by omega, .inl (by omega)⟩)
   ·have hq := order_has (L := L) (T := T) j hj
    rw [hA] at hq
    rcases List.mem_append.1 hq with hq | hq
    ·have := (hm j hj).2 ⟨_, hq, rfl⟩
     rw [this] at hj8
     cases hj8
    ·rcases List.mem_cons.1 hq with e | hq
     ·have := congrArg S221.f0 e
      exact .inl (Int.ofNat_inj.1 this)
     ·have h1 := (List.pairwise_cons.1 (List.pairwise_append.1 hsort).2.1).1 _ hq
      unfold leP ltP at h1
      simp only [decide_eq_false_iff_not] at h1
      rw [hrest j hj, hrest s hs]
      omega
   ·rw [hw]
    refine (ih (A ++ [⟨(s : Int), leftV L T (l[s]'hs)⟩]) (by rw [hA]; simp) c _ _ (by simpa using hc) (by simpa using h8) (by simpa using h5) (fun j hj => ?_)).val ?_
    ·rw [set_getD _ _ _ (by omega)]
     by_cases e : j = s
     ·subst e; simp
     ·rw [if_neg e, hm j hj]
      constructor
      ·rintro ⟨q, hq, e⟩; exact ⟨q, by simp [hq], e⟩
      ·rintro ⟨q, hq, e'⟩
       rcases List.mem_append.1 hq with hq | hq
       ·exact ⟨q, hq, e'⟩
       ·obtain rfl := List.mem_singleton.1 hq
        exact absurd (Int.ofNat_inj.1 e'.symm) e
    ·simp [bump]
theorem ev_Curtail {L : Int} {l : List Int} (hl : Len l) (hT : sumW l > L) (h0 : sumW l ≠ 0) (hs : 0 ≤ spareV L (sumW l) l ∧ spareV L (sumW l) l ≤ l.length) : Ev (fun k => nacelleref08_Curtail.f k l L) (curtailV L (sumW l) l) := by
 unfold nacelleref08_Curtail.f
 have hb : ([] : List Int).length + l.length < 17592186044416 := by unfold Len at hl; simp; omega
 simp only [Option.bind_some, if_pos hb, List.nil_append]
 refine Ev.bind (ev_total hl) ?_
 simp only [if_neg (by omega : ¬ sumW l ≤ L)]
 generalize hT' : sumW l = T at *
 suffices h : ∀ (d p : List Int), l = p ++ d → Ev (fun k => nacelleref08_Curtail.l0 k l L (p.map (cutV L T) ++ d) T p.length) (curtailV L T l) from h l [] rfl
 intro d
 induction d with
 | nil =>
  intro p e
  obtain rfl : l = p := by simpa using e
  refine Ev.step ?_
  have hg : Len (givenV L T l) := by unfold Len givenV at *; simpa using hl
  have h1 : 0 ≤ (l.length : Int) := Int.natCast_nonneg _
  have h2 : (l.length : Int).toNat ≤ 281474976710656 := by unfold Len at hl; omega
  simp only [nacelleref08_Curtail.l0, if_neg (len_end e), if_pos h1, if_pos h2, List.append_nil]
  refine Ev.bind (ev_total hg) ?_
  have hs1 : 0 ≤ spareV L T l := hs.1
  have e3 : wrap64 (L - sumW (List.map (cutV L T) l)) = (((spareV L T l).toNat : Nat) : Int) := by
   rw [Int.toNat_of_nonneg hs1]
   rfl
  simp only [e3, Int.toNat_natCast]
  refine ev_picks hl h0 (orderV L T l) [] rfl _ _ _ ?_ (by simp) (by simp) (fun j hj => ?_)
  ·rw [order_length]
   omega
  ·simp only [List.getD_eq_getElem?_getD, List.getElem?_replicate, hj, if_true]
   simp
 | cons x d ih =>
  intro p e
  refine Ev.step ?_
  have h5 : (p.length : Int) < (((p.map (cutV L T) ++ x :: d).length : Nat) : Int) := by simp; omega
  simp only [nacelleref08_Curtail.l0, if_pos (len_at e), if_pos (Int.natCast_nonneg p.length), if_neg h0, if_pos h5, rd_at e, w_next e (Nat.le_trans hl (by decide))]
  refine (ih (p ++ [x]) (next_at e)).congr fun k => ?_
  congr 1
  simp [cutV]
end Go.Proofs.YtfdlhbdcejlopaaGreatDoor.B
namespace Go.Proofs.YtfdlhbdcejlopaaGreatDoor.B
open Go.RowKit Go.Proofs.YtfdlhbdcejlopaaGreatDoorW.PrintWords Go.Proofs.YtfdlhbdcejlopaaGreatDoorW.PrintLast Go.Proofs.YtfdlhbdcejlopaaGreatDoorW.PrintMore
attribute [local go_sem] max2_int min2_int max_two min_two
set_option linter.unusedVariables false
set_option linter.unusedSimpArgs false
/-! ### nacellelaw08_cost: function 82 -/
def nacellelaw08_cost.f  : Option (Int × Int × Int) := some (30, 50, 80)
set_option maxHeartbeats 8000000 in
set_option maxRecDepth 100000 in
theorem nacellelaw08_cost.calls  (r1 : Int) (r2 : Int) (r3 : Int) (w : World) (h : nacellelaw08_cost.f  = some (r1, r2, r3)) :
  Calls Tryz.prog 82 #[] w fun e w' => e = .returned (.agg #[.int .i64 r1, .int .i64 r2, .int .i64 r3]) ∧ Below w.heap.size w w' := by
 have hu31 := Tryz.underlying31
 have HB := Aside0.mk (Below.refl w.heap.size w)
 have H : (some (30, 50, 80)) = some (r1, r2, r3) := h
 clear h
 simp only [Option.some.injEq, Prod.mk.injEq] at H
 obtain ⟨rfl, rfl, rfl⟩ := H
 go_enter Tryz.func82, Tryz.ntmps82
 go_wp2_with (first | ((with_reducible refine gate_dst (N := 0) rfl ?_); refine box_event ?hg (N := 0) ?hd (cs := #[.int .i64 0, .int .i64 0, .int .i64 0]) (t := 31) ?hr ?_; (case hd => rfl); (case hg => rfl); (case hr => first | (go_simp; done) | (go_simp; rfl)); intro gb101 hg w1 hbox hb; have n0_ := Aside0.mk (below_step (ws_ HB.out) hb); have n1_ := Aside0.mk (hbox); have n2_ := Aside0.mk ((by rw [hg]; exact (below_size (ws_ HB.out)) : w.heap.size ≤ gb101)); have n3_ := Aside0.mk ((by rw [hg]; exact (below_size (ws_ HB.out)) : w.heap.size ≤ gb101)); clear HB; have HB := n0_; have BK101 := n1_; have GW101 := n2_; have GE101 := n3_; clear n0_ n1_ n2_ n3_; clear hb hbox hg; have hcz2_0 : w1.cell? ⟨gb101, 0, none⟩ = some (.int .i64 0) := (blk_cell BK101.out 0).trans rfl; have hcz2_1 : w1.cell? ⟨gb101, 1, none⟩ = some (.int .i64 0) := (blk_cell BK101.out 1).trans rfl; have hcz2_2 : w1.cell? ⟨gb101, 2, none⟩ = some (.int .i64 0) := (blk_cell BK101.out 2).trans rfl; have hfz2_0 := blk_frozen BK101.out 0; have hfz2_1 := blk_frozen BK101.out 1; have hfz2_2 := blk_frozen BK101.out 2))
 refine bodyPost_ret (results_cell_row rfl _ _ gb101 31 #[.int .i64 30, .int .i64 50, .int .i64 80] (0, 0) _ rfl (by (with_reducible repeat (first | refine blk_drewN ?_ _ | refine blk_drew ?_ | refine blk_alloc ?_ _)); refine blk_put (cs := #[.int .i64 30, .int .i64 50, .int .i64 0]) ?_ 2 _ rfl; (with_reducible repeat (first | refine blk_drewN ?_ _ | refine blk_drew ?_ | refine blk_alloc ?_ _)); refine blk_put (cs := #[.int .i64 30, .int .i64 0, .int .i64 0]) ?_ 1 _ rfl; (with_reducible repeat (first | refine blk_drewN ?_ _ | refine blk_drew ?_ | refine blk_alloc ?_ _)); refine blk_put (cs := #[.int .i64 0, .int .i64 0, .int .i64 0]) ?_ 0 _ rfl; (with_reducible repeat (first | refine blk_drewN ?_ _ | refine blk_drew ?_ | refine blk_alloc ?_ _)); exact BK101.out) Tryz.underlying31 rfl (by kernel_rfl)) rfl ?_
 exact ⟨by first | rfl | (simp [errW_none, errW_some] <;> rfl) | (simp [*, errW_none, errW_some] <;> rfl), by repeat (first | (with_reducible first | exact HB.out | apply below_alloc | apply pw_below_drewN | apply below_drew1 | refine below_set ?_ GE101.out) | exact HB.out)⟩
/-! ### nacellelaw08_sample: function 83 -/
def nacellelaw08_sample.f  : Option ((List (S156))) := some (([(⟨1, (([10] : List Int))⟩ : S156), (⟨2, (([20] : List Int))⟩ : S156), (⟨1, (([40] : List Int))⟩ : S156)] : List (S156)))
set_option maxHeartbeats 8000000 in
set_option maxRecDepth 100000 in
theorem nacellelaw08_sample.calls  (r : List (S156)) (w : World) (h : nacellelaw08_sample.f  = some r) :
  Calls Tryz.prog 83 #[] w fun e w' => ∃ v0_ : Value, e = .returned (v0_) ∧ Kd.N k156 156 w' w.heap.size (fun k_ => (w.heap.size ≤ k_)) v0_ r ∧ Below w.heap.size w w' := by
 have hu156 := Tryz.underlying156
 have HB := Aside0.mk (Below.refl w.heap.size w)
 have H : (some (([(⟨1, (([10] : List Int))⟩ : S156), (⟨2, (([20] : List Int))⟩ : S156), (⟨1, (([40] : List Int))⟩ : S156)] : List (S156)))) = some r := h
 clear h
 obtain ⟨y101, hy101⟩ : ∃ y_ : List Int, y_ = (([10] : List Int)) := ⟨_, rfl⟩
 replace H : (some (([(⟨1, y101⟩ : S156), (⟨2, (([20] : List Int))⟩ : S156), (⟨1, (([40] : List Int))⟩ : S156)] : List (S156)))) = some r := by first | (rw [hy101]; with_reducible exact H) | (have H2_ := (Option.bind_some _ _).symm.trans H; rw [hy101]; with_reducible exact H2_) | (have H2_ := (Option.bind_some _ _).symm.trans H; with_reducible exact H2_) | with_reducible exact H | (rw [hy101]; exact H) | exact H
 have Ny101 := Aside0.mk hy101
 clear hy101
 obtain ⟨y104, hy104⟩ : ∃ y_ : List Int, y_ = (([20] : List Int)) := ⟨_, rfl⟩
 replace H : (some (([(⟨1, y101⟩ : S156), (⟨2, y104⟩ : S156), (⟨1, (([40] : List Int))⟩ : S156)] : List (S156)))) = some r := by first | (rw [hy104]; with_reducible exact H) | (have H2_ := (Option.bind_some _ _).symm.trans H; rw [hy104]; with_reducible exact H2_) | (have H2_ := (Option.bind_some _ _).symm.trans H; with_reducible exact H2_) | with_reducible exact H | (rw [hy104]; exact H) | exact H
 have Ny104 := Aside0.mk hy104
 clear hy104
 obtain ⟨y107, hy107⟩ : ∃ y_ : List Int, y_ = (([40] : List Int)) := ⟨_, rfl⟩
 replace H : (some (([(⟨1, y101⟩ : S156), (⟨2, y104⟩ : S156), (⟨1, y107⟩ : S156)] : List (S156)))) = some r := by first | (rw [hy107]; with_reducible exact H) | (have H2_ := (Option.bind_some _ _).symm.trans H; rw [hy107]; with_reducible exact H2_) | (have H2_ := (Option.bind_some _ _).symm.trans H; with_reducible exact H2_) | with_reducible exact H | (rw [hy107]; exact H) | exact H
 have Ny107 := Aside0.mk hy107
 clear hy107
 obtain ⟨y110, hy110⟩ : ∃ y_ : List (S156), y_ = (([(⟨1, y101⟩ : S156), (⟨2, y104⟩ : S156), (⟨1, y107⟩ : S156)] : List (S156))) := ⟨_, rfl⟩
 replace H : (some y110) = some r := by first | (rw [hy110]; with_reducible exact H) | (have H2_ := (Option.bind_some _ _).symm.trans H; rw [hy110]; with_reducible exact H2_) | (have H2_ := (Option.bind_some _ _).symm.trans H; with_reducible exact H2_) | with_reducible exact H | (rw [hy110]; exact H) | exact H
 have Ny110 := Aside0.mk hy110
 clear hy110
 obtain rfl := Option.some.inj H
 go_enter Tryz.func83, Tryz.ntmps83
 go_wp2_with (first | ((with_reducible refine gate_dst (N := 1) rfl ?_); refine Kd.R_lit (Kd.int .i64) _ 3 ?hg (N := 1) ?hd (xs := ([10] : List Int)) (inner := [.int .i64 10]) (ok := fun _ => True) (okp := fun _ => True) ?hr ?hp (fun _ hk => hk) trivial (Below.refl _ _) (Nat.le_refl _) (by simp) ?_; (case hd => rfl); (case hg => rfl); (case hr => first | (go_simp; done) | (go_simp; rfl)); (case hp => exact (Reps.one (show Kd.M (Kd.int .i64) _ _ _ 10 [.int .i64 10] from rfl) (Reps.none _ _))); intro v102 w1 ho2 hb hg_ hnew_; clear hg_ hnew_; (first | rw [← Ny101.out] at ho2 | (simp only [Int.reduceToNat] at ho2; rw [← Ny101.out] at ho2)); have n0_ := Aside0.mk (Kd.R_lower (Kd.R_newM (M := fun k_ => (w.heap.size ≤ k_)) ho2 (below_size (ws_ HB.out)) (fun k_ h_ => h_)) (below_size (ws_ HB.out))); have n1_ := Aside0.mk (below_step (ws_ HB.out) hb); clear HB; have HO103 := n0_; have HB := n1_; clear n0_ n1_; clear hb ho2; obtain ⟨Ao3, co3, eo3⟩ := Kd.R_slice HO103.out; subst eo3) | ((with_reducible refine gate_dst (N := 3) rfl ?_); refine Kd.R_lit (Kd.int .i64) _ 3 ?hg (N := 3) ?hd (xs := ([20] : List Int)) (inner := [.int .i64 20]) (ok := fun _ => True) (okp := fun _ => True) ?hr ?hp (fun _ hk => hk) trivial (Below.refl _ _) (Nat.le_refl _) (by simp) ?_; (case hd => rfl); (case hg => rfl); (case hr => first | (go_simp; done) | (go_simp; rfl)); (case hp => exact (Reps.one (show Kd.M (Kd.int .i64) _ _ _ 20 [.int .i64 20] from rfl) (Reps.none _ _))); intro v105 w4 ho5 hb hg_ hnew_; clear hg_ hnew_; (first | rw [← Ny104.out] at ho5 | (simp only [Int.reduceToNat] at ho5; rw [← Ny104.out] at ho5)); have n0_ := Aside0.mk (Kd.R_elder' (rs_ HO103.out) (Kd.R_base ho5) hb); have n1_ := Aside0.mk (Kd.R_lower (Kd.R_new' (Kd.R_newM (M := fun k_ => (w.heap.size ≤ k_)) ho5 (below_size (ws_ HB.out)) (fun k_ h_ => h_)) (Kd.R_lt (rs_ HO103.out))) (below_size (ws_ HB.out))); have n2_ := Aside0.mk (below_step (ws_ HB.out) hb); clear HO103; clear HB; have HO103 := n0_; have HO106 := n1_; have HB := n2_; clear n0_ n1_ n2_; clear hb ho5; obtain ⟨Ao6, co6, eo6⟩ := Kd.R_slice HO106.out; subst eo6) | ((with_reducible refine gate_dst (N := 5) rfl ?_); refine Kd.R_lit (Kd.int .i64) _ 3 ?hg (N := 5) ?hd (xs := ([40] : List Int)) (inner := [.int .i64 40]) (ok := fun _ => True) (okp := fun _ => True) ?hr ?hp (fun _ hk => hk) trivial (Below.refl _ _) (Nat.le_refl _) (by simp) ?_; (case hd => rfl); (case hg => rfl); (case hr => first | (go_simp; done) | (go_simp; rfl)); (case hp => exact (Reps.one (show Kd.M (Kd.int .i64) _ _ _ 40 [.int .i64 40] from rfl) (Reps.none _ _))); intro v108 w7 ho8 hb hg_ hnew_; clear hg_ hnew_; (first | rw [← Ny107.out] at ho8 | (simp only [Int.reduceToNat] at ho8; rw [← Ny107.out] at ho8)); have n0_ := Aside0.mk (Kd.R_elder' (rs_ HO103.out) (Kd.R_base ho8) hb); have n1_ := Aside0.mk (Kd.R_elder' (rs_ HO106.out) (Kd.R_base ho8) hb); have n2_ := Aside0.mk (Kd.R_lower (Kd.R_new' (Kd.R_new' (Kd.R_newM (M := fun k_ => (w.heap.size ≤ k_)) ho8 (below_size (ws_ HB.out)) (fun k_ h_ => h_)) (Kd.R_lt (rs_ HO103.out))) (Kd.R_lt (rs_ HO106.out))) (below_size (ws_ HB.out))); have n3_ := Aside0.mk (below_step (ws_ HB.out) hb); clear HO103; clear HO106; clear HB; have HO103 := n0_; have HO106 := n1_; have HO109 := n2_; have HB := n3_; clear n0_ n1_ n2_ n3_; clear hb ho8; obtain ⟨Ao9, co9, eo9⟩ := Kd.R_slice HO109.out; subst eo9) | ((with_reducible refine gate_dst (N := 7) rfl ?_); refine Kd.N_lit k156 _ 156 ?hg (N' := 7) ?hd (xs := ([(⟨1, y101⟩ : S156), (⟨2, y104⟩ : S156), (⟨1, y107⟩ : S156)] : List (S156))) (inner := [.int .i64 1, .slice Ao3 y101.length co3, .int .i64 2, .slice Ao6 y104.length co6, .int .i64 1, .slice Ao9 y107.length co9]) (ok := (fun k_ => (w.heap.size ≤ k_))) (okp := (fun k_ => (w.heap.size ≤ k_))) ?hr ?hp (fun _ hk => hk) ((show ∀ k_, w7.heap.size ≤ k_ → (fun k_ => (w.heap.size ≤ k_)) k_ from fun k_ hk => (Nat.le_trans (below_size (ws_ HB.out)) hk)) _ (Nat.le_refl _)) (Below.refl _ _) (Nat.le_refl _) (by simp) ?_; (case hd => rfl); (case hg => rfl); (case hr => first | (go_simp; done) | (go_simp; rfl)); (case hp => exact (Reps.c2 (show Kd.FK k156 _ _ (⟨1, y101⟩ : S156) [.int .i64 1, .slice Ao3 y101.length co3] from (k156_mkF _ _ (⟨1, y101⟩ : S156) (Kd.R_reads' (Kd.R_mono (ok' := (fun k_ => (w.heap.size ≤ k_))) (HO103.out) (fun k_ hk => hk.1.1.1))).2.1 (Kd.R_F (Kd.R_mono (ok' := (fun k_ => (w.heap.size ≤ k_))) (HO103.out) (fun k_ hk => hk.1.1.1))))) (Reps.c2 (show Kd.FK k156 _ _ (⟨2, y104⟩ : S156) [.int .i64 2, .slice Ao6 y104.length co6] from (k156_mkF _ _ (⟨2, y104⟩ : S156) (Kd.R_reads' (Kd.R_mono (ok' := (fun k_ => (w.heap.size ≤ k_))) (HO106.out) (fun k_ hk => hk.1.1.1))).2.1 (Kd.R_F (Kd.R_mono (ok' := (fun k_ => (w.heap.size ≤ k_))) (HO106.out) (fun k_ hk => hk.1.1.1))))) (Reps.c2 (show Kd.FK k156 _ _ (⟨1, y107⟩ : S156) [.int .i64 1, .slice Ao9 y107.length co9] from (k156_mkF _ _ (⟨1, y107⟩ : S156) (Kd.R_reads' (Kd.R_mono (ok' := (fun k_ => (w.heap.size ≤ k_))) (HO109.out) (fun k_ hk => hk.1.1.1))).2.1 (Kd.R_F (Kd.R_mono (ok' := (fun k_ => (w.heap.size ≤ k_))) (HO109.out) (fun k_ hk => hk.1.1.1))))) (Reps.none _ _))))); intro v111 w10 ho11 hb hg_ hnew_; clear hg_ hnew_; (first | rw [← Ny110.out] at ho11 | (simp only [Int.reduceToNat] at ho11; rw [← Ny110.out] at ho11)); have n0_ := Aside0.mk (Kd.N_lower ho11 (below_size (ws_ HB.out))); have n1_ := Aside0.mk (below_step (ws_ HB.out) hb); clear HB; clear HO103; clear HO106; clear HO109; have HO112 := n0_; have HB := n1_; clear n0_ n1_; clear hb ho11))
 go_ret
 exact ⟨_, by first | rfl | (simp [errW_none, errW_some] <;> rfl) | (simp [*, errW_none, errW_some] <;> rfl), by (with_reducible repeat (first | apply Kd.N_alloc | apply Kd.N_drewN | apply Kd.N_drew)); exact HO112.out, by repeat (first | (with_reducible first | exact HB.out | apply below_alloc | apply pw_below_drewN | apply below_drew1) | exact HB.out)⟩
/-! ### nacellelaw08_operated: function 84 -/
def nacellelaw08_operated.f  : Option ((List (S86))) := some (([(⟨20, 25, 5, 1, 19⟩ : S86), (⟨20, 15, 0, 0, 15⟩ : S86)] : List (S86)))
set_option maxHeartbeats 8000000 in
set_option maxRecDepth 100000 in
theorem nacellelaw08_operated.calls  (r : List (S86)) (w : World) (h : nacellelaw08_operated.f  = some r) :
  Calls Tryz.prog 84 #[] w fun e w' => ∃ v0_ : Value, e = .returned (v0_) ∧ Kd.R k86 86 w' w.heap.size (fun _ => True) v0_ r ∧ Below w.heap.size w w' := by
 have hu86 := Tryz.underlying86
 have HB := Aside0.mk (Below.refl w.heap.size w)
 have H : (some (([(⟨20, 25, 5, 1, 19⟩ : S86), (⟨20, 15, 0, 0, 15⟩ : S86)] : List (S86)))) = some r := h
 clear h
 obtain ⟨y101, hy101⟩ : ∃ y_ : List (S86), y_ = (([(⟨20, 25, 5, 1, 19⟩ : S86), (⟨20, 15, 0, 0, 15⟩ : S86)] : List (S86))) := ⟨_, rfl⟩
 replace H : (some y101) = some r := by first | (rw [hy101]; with_reducible exact H) | (have H2_ := (Option.bind_some _ _).symm.trans H; rw [hy101]; with_reducible exact H2_) | (have H2_ := (Option.bind_some _ _).symm.trans H; with_reducible exact H2_) | with_reducible exact H | (rw [hy101]; exact H) | exact H
 have Ny101 := Aside0.mk hy101
 clear hy101
 obtain rfl := Option.some.inj H
 go_enter Tryz.func84, Tryz.ntmps84
 go_wp2_with (first | ((with_reducible refine gate_dst (N := 3) rfl ?_); refine Kd.R_lit k86 _ 86 ?hg (N := 3) ?hd (xs := ([(⟨20, 25, 5, 1, 19⟩ : S86), (⟨20, 15, 0, 0, 15⟩ : S86)] : List (S86))) (inner := [.int .i64 20, .int .i64 25, .int .i64 5, .int .i64 1, .int .i64 19, .int .i64 20, .int .i64 15, .int .i64 0, .int .i64 0, .int .i64 15]) (ok := fun _ => True) (okp := fun _ => True) ?hr ?hp (fun _ hk => hk) trivial (Below.refl _ _) (Nat.le_refl _) (by simp) ?_; (case hd => rfl); (case hg => rfl); (case hr => first | (go_simp; done) | (go_simp; rfl)); (case hp => exact (Reps.c5 (show Kd.M k86 _ _ _ (⟨20, 25, 5, 1, 19⟩ : S86) [.int .i64 20, .int .i64 25, .int .i64 5, .int .i64 1, .int .i64 19] from (k86_mkM _ _ _ (⟨20, 25, 5, 1, 19⟩ : S86) )) (Reps.c5 (show Kd.M k86 _ _ _ (⟨20, 15, 0, 0, 15⟩ : S86) [.int .i64 20, .int .i64 15, .int .i64 0, .int .i64 0, .int .i64 15] from (k86_mkM _ _ _ (⟨20, 15, 0, 0, 15⟩ : S86) )) (Reps.none _ _)))); intro v102 w1 ho2 hb hg_ hnew_; clear hg_ hnew_; (first | rw [← Ny101.out] at ho2 | (simp only [Int.reduceToNat] at ho2; rw [← Ny101.out] at ho2)); have n0_ := Aside0.mk (Kd.R_lower ho2 (below_size (ws_ HB.out))); have n1_ := Aside0.mk (below_step (ws_ HB.out) hb); clear HB; have HO103 := n0_; have HB := n1_; clear n0_ n1_; clear hb ho2))
 go_ret
 exact ⟨_, by first | rfl | (simp [errW_none, errW_some] <;> rfl) | (simp [*, errW_none, errW_some] <;> rfl), by (with_reducible repeat (first | apply Kd.R_alloc | apply Kd.R_drewN | apply Kd.R_drew)); exact HO103.out, by repeat (first | (with_reducible first | exact HB.out | apply below_alloc | apply pw_below_drewN | apply below_drew1) | exact HB.out)⟩
/-! ### market_checkPrice: function 93 -/
def market_checkPrice.f (a0 : Int) : Option (Int) := (market_within.f a0 0 10000).bind fun t101 => (some t101)
set_option maxHeartbeats 8000000 in
set_option maxRecDepth 100000 in
theorem market_checkPrice.calls (a0 : Int) (r : Int) (w : World) (h : market_checkPrice.f a0 = some r) :
  Calls Tryz.prog 93 #[.int .i64 a0] w fun e w' => e = .returned (.int .i64 r) ∧ Drawn0 w w' := by
 have H : ((market_within.f a0 0 10000).bind fun t101 => (some t101)) = some r := h
 clear h
 replace H := Option.bind_eq_some_iff.mp H
 obtain ⟨t101, A20, H⟩ := H
 replace H : (some t101) = some r := H
 have A2 := Aside0.mk A20
 clear A20
 obtain rfl := Option.some.inj H
 go_enter Tryz.func93, Tryz.ntmps93
 go_wp2_with (first | ((with_reducible refine gate_callee (f := 91) rfl ?_); refine gl_ (some 4) Tryz.func91 #[.int .i64 a0, .int .i64 0, .int .i64 10000] ?_; (with_reducible refine (market_within.calls a0 0 10000 t101 _ A2.out).mono ?_); rintro e w' ⟨rfl, ⟨nd, rfl⟩⟩; refine ⟨_, rfl, ?_⟩))
 go_ret
 exact ⟨by first | rfl | (simp; done) | (simp [*]; done), by repeat (first | exact Drawn0.refl _ | apply Drawn0.step)⟩
end Go.Proofs.YtfdlhbdcejlopaaGreatDoor.B
