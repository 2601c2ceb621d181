/- Part 1 of a claim of several texts. What some rows come to: P21.1. (A closed statement.) -/
import Derived.Test.YtnlfhbohcgjcbaaWMore
import Derived.Test.YtnlfhbohcgjcbaaWLast
import Derived.KernelRfl
import Derived.Test.YtnlfhbohcgjcbaaProg
import Derived.Below
import Derived.Deep.Draws
import Derived.Deep.AppendLies
import Derived.Maps.AppendAt
import Derived.OwnWalk
import Derived.Laws.BytesArg
import Derived.Laws.MakeOwn
import Derived.Laws.OwnMore
import Derived.Deep.OwnRows
import Derived.Tactics
import Derived.Lib.ConvBytes
import Derived.Laws.Slices
import Derived.WalkKit
import Derived.RowKit3
import Derived.Deep.LoopGhost
import Derived.Deep.QuietTactic
import Derived.BigQuiet
import Derived.WideLaws
import Derived.Deep.DeepCutAuto
import Derived.Deep.CutBlock
import Derived.Deep.RegionHeld3
import Derived.Laws.Rows
import Derived.Lib.AppendStr
import Derived.ArgAppend
import Derived.Laws.IdiomCopy
import Derived.OrdersHeld
import Derived.Laws.BitsLemmas
import Derived.RowKit
import Derived.WalkLawsBesides
import Derived.WalkSpells
import Derived.Test.YtnlfhbohcgjcbaaWWords
import Derived.Test.YtnlfhbohcgjcbaaWTab
import Derived.Test.YtnlfhbohcgjcbaaWApart
import Derived.Test.YtnlfhbohcgjcbaaWKept
import Derived.Test.YtnlfhbohcgjcbaaWShare
import Derived.Test.YtnlfhbohcgjcbaaWN
import Derived.Test.YtnlfhbohcgjcbaaWRepsOne
import Derived.Test.YtnlfhbohcgjcbaaWGuard
import Derived.Test.YtnlfhbohcgjcbaaWNEv
import Derived.Shelf.Small.Wraps
import Derived.Shelf.Sort.Plain
import Derived.Shelf.Slices.Turned
import Derived.Ground.Names2Prog
import Derived.Shelf.Slices.CompactI
import Derived.Shelf.Slices.Cells
import Derived.Shelf.Slices.In.SortNone
import Derived.Shelf.Bytes.SlSmallAll
import Derived.Shelf.Bytes.SlEqualAll
import Derived.Shelf.Bytes.Small
import Derived.Sort.Row
import Derived.Sort.Grow
import Derived.Lib.SlicesCompact
import Derived.Lib.SliceRun
import Derived.Lib.JoinLaws
import Derived.Lib.AppendZerosOnto
import Derived.Lib.Overlaps
import Derived.Laws.Externs
import Derived.Laws.CopyRow
import Derived.Laws.CopyOwn
import Derived.Outline
namespace Go.Proofs.YtnlfhbohcgjcbaaW.PrintLast
open Go.RowKit
variable {P : Program} {Q : Exit → Act → World → Prop}
theorem goesV_ {ops : Array Oper} {oi : Oper} {N : Option Tmp} {a : Act} {w : World} {K : Act → World → Prop} {f : FuncId} {fn : Func} {c : Operand} {os : Array Operand} {ts : Array TypeId} (hf : P.funcs[f]? = some fn) (hname : (fn.name == "runtime.NumGoroutine") = false) (hb : fn.body.isSome = true) (args : Array Value)
  (hw : Region.wanted oi (yielded ops a.tmps) = true) (hN : oi.dst = N) (hop : oi.op = .call { callee := .value c, args := os, argTypes := ts }) (hargs : os.map a.eval = args)
  (h : Calls P f args w fun e w' => ∃ v, e = .returned v ∧ K (a.put N v) w') (hc : a.eval c = .func (.func f) #[] #[] := by rfl) : if Region.wanted oi (yielded ops a.tmps) = true then Oper.wp P oi a w K Q else K (a.put N undef) w := by
 refine call_ f args hw hN ?_ h
 have he := enters_ hf hname hb args w
 unfold execOp
 simp [hop, resolve, Deferred.ofValue, invoke, hargs, he, hc]
/-- A call in a plain region: what the walk can show by itself is left to it. -/
theorem goesM_ {ops : Array Oper} {rest : List Oper} {oi : Oper} {a : Act} {w : World} (N : Option Tmp) {f : FuncId} {fn : Func} {os : Array Operand} {ts : Array TypeId} (hf : P.funcs[f]? = some fn) (args : Array Value)
  (h : Calls P f args w fun e w' => ∃ v, e = .returned v ∧ wpList P ops Q rest (a.put N v) w')
  (hd : oi.dst = N := by rfl) (hg : oi.guard = none := by rfl) (hname : (fn.name == "runtime.NumGoroutine") = false := by kernel_rfl) (hb : fn.body.isSome = true := by rfl)
  (hop : oi.op = .call { callee := .value (.func f), args := os, argTypes := ts } := by rfl)
  (hargs : os.map a.eval = args := by (try simp only [List.map_toArray, List.map_cons, List.map_nil]); first | done | rfl | (simp only [List.length_drop, List.length_take]; rfl)) : wpList P ops Q (oi :: rest) a w :=
 goesL_ N hd hg hf hname hb args hop hargs h
end Go.Proofs.YtnlfhbohcgjcbaaW.PrintLast
namespace Go.Proofs.YtnlfhbohcgjcbaaW.PrintWords
open Go.RowKit Go.Proofs.YtnlfhbohcgjcbaaW.PrintLast
theorem ba_ {w W : World} (h : Below w.heap.size w W) (o : Obj) : Below w.heap.size w (W.alloc o) := below_alloc h o
theorem bn_ {B : Nat} {w W : World} (h : Below B w W) (n : Nat) : Below B w (W.drewN n) := pw_below_drewN h n
theorem bd_ {base : Nat} {w W : World} (h : Below base w W) : Below base w W.drew := below_drew1 h
theorem bs_ {w W : World} {g j : Nat} {v : Value} (h : Below w.heap.size w W) (hg : w.heap.size ≤ g) : Below w.heap.size w (W.setCell ⟨g, j, none⟩ v) := below_set h hg
section
variable {α : Type} {d : Kd α} {e : Nat} {w : World} {base : Nat} {ok : Nat → Prop} {v : Value} {xs : List α} {A : Option Addr} {n : Nat} {g : Nat} {o : Obj}
theorem ra_ (h : d.R e w base ok v xs) (o : Obj) : d.R e (w.alloc o) base ok v xs := Kd.R_alloc h o
theorem rn_ (h : d.R e w base ok v xs) (m : Nat) : d.R e (w.drewN m) base ok v xs := Kd.R_drewN h m
theorem rd_ (h : d.R e w base ok v xs) : d.R e w.drew base ok v xs := Kd.R_drew h
theorem ca_ (h : d.C w A n xs) (o : Obj) : d.C (w.alloc o) A n xs := Kd.C_alloc h o
theorem cn_ (h : d.C w A n xs) (m : Nat) : d.C (w.drewN m) A n xs := Kd.C_drewN h m
theorem cd_ (h : d.C w A n xs) : d.C w.drew A n xs := Kd.C_drew h
theorem kn_ (h : w.heap[g]? = some o) (n : Nat) : (w.drewN n).heap[g]? = some o := h
theorem kd_ (h : w.heap[g]? = some o) : w.drew.heap[g]? = some o := h
theorem ka_ (h : w.heap[g]? = some o) (o' : Obj) : (w.alloc o').heap[g]? = some o := blk_alloc h o'
end
end Go.Proofs.YtnlfhbohcgjcbaaW.PrintWords
namespace Go.Proofs.Ytnlfhbohcgjcbaa.PA
open Go.RowKit Go.Proofs.YtnlfhbohcgjcbaaW.PrintWords Go.Proofs.YtnlfhbohcgjcbaaW.PrintLast Go.Proofs.YtnlfhbohcgjcbaaW.PrintMore
attribute [local go_sem] max2_int min2_int max_two min_two max_three min_three max_four min_four
set_option linter.unusedVariables false
set_option linter.unusedSimpArgs false
def errW : Option Int → Value
 | none => .nilIface
 | some c => .iface 0 (.int .i64 c)
theorem errW_none : errW none = .nilIface := rfl
theorem errW_some (c : Int) : errW (some c) = .iface 0 (.int .i64 c) := rfl
theorem info3 : (Try.prog.info? 3).map (fun i => (i.zero, i.size, i.bytes)) = some (some (.int .i64 0), 1, 8) := by kernel_rfl
theorem info9 : (Try.prog.info? 9).map (fun i => (i.zero, i.size, i.bytes)) = some (some (.string ⟨#[]⟩), 1, 16) := by kernel_rfl
structure S24 where
 f0 : ByteArray
 f1 : Int
 f2 : ByteArray
 f3 : Bool
def z24 : S24 := ⟨(⟨#[]⟩ : ByteArray), (0 : Int), (⟨#[]⟩ : ByteArray), false⟩
def k24 : Kd S24 := Kd.iso (Kd.pair Kd.string (Kd.pair (Kd.int .i64) (Kd.pair Kd.string Kd.bool))) (fun x : S24 => (x.f0, x.f1, x.f2, x.f3))
theorem k24_open {w : World} {x : S24} {cs : List Value} (h : k24.K w x cs) : cs = [.string x.f0, .int .i64 x.f1, .string x.f2, .bool x.f3] := by
 obtain ⟨_, _, rfl, rfl, ⟨_, _, rfl, rfl, ⟨_, _, rfl, rfl, rfl⟩⟩⟩ := h
 exact rfl
theorem k24_mk (w : World) (x : S24)  : k24.K w x [.string x.f0, .int .i64 x.f1, .string x.f2, .bool x.f3] := ⟨[.string x.f0], [.int .i64 x.f1, .string x.f2, .bool x.f3], rfl, rfl, ⟨[.int .i64 x.f1], [.string x.f2, .bool x.f3], rfl, rfl, ⟨[.string x.f2], [.bool x.f3], rfl, rfl, rfl⟩⟩⟩
theorem k24_mkM (w : World) (base : Nat) (ok : Nat → Prop) (x : S24)  : k24.M w base ok x [.string x.f0, .int .i64 x.f1, .string x.f2, .bool x.f3] := ⟨[.string x.f0], [.int .i64 x.f1, .string x.f2, .bool x.f3], rfl, rfl, ⟨[.int .i64 x.f1], [.string x.f2, .bool x.f3], rfl, rfl, ⟨[.string x.f2], [.bool x.f3], rfl, rfl, rfl⟩⟩⟩
def rd_T24 (xs : List S24) (i : Int) : S24 := xs.getD i.toNat z24
theorem at_T24 {w : World} {A : Option Addr} {n : Nat} {xs : List S24} (h : Kd.C k24 w A n xs) (i : Int) (h0 : 0 ≤ i) (h1 : i < n) : ∃ ad , A = some ad ∧ w.cell? (ad.add (i.toNat * 4)) = some (.string (rd_T24 xs i).f0) ∧ w.cell? ⟨(ad.add (i.toNat * 4)).block, (ad.add (i.toNat * 4)).off + 1, none⟩ = some (.int .i64 (rd_T24 xs i).f1) ∧ w.cell? ⟨(ad.add (i.toNat * 4)).block, (ad.add (i.toNat * 4)).off + 2, none⟩ = some (.string (rd_T24 xs i).f2) ∧ w.cell? ⟨(ad.add (i.toNat * 4)).block, (ad.add (i.toNat * 4)).off + 3, none⟩ = some (.bool (rd_T24 xs i).f3) := by
 obtain ⟨ad, c, e, _, hK, hc0⟩ := Kd.C_get h z24 i h0 h1
 have hc : ∀ j u, c[j]? = some u → w.cell? (ad.add (i.toNat * 4 + j)) = some u := hc0
 obtain rfl := k24_open hK
 exact ⟨ad, e, hc 0 _ rfl, by rw [← add_field _ _ 1 (by omega)]; exact hc 1 _ rfl, by rw [← add_field _ _ 2 (by omega)]; exact hc 2 _ rfl, by rw [← add_field _ _ 3 (by omega)]; exact hc 3 _ rfl⟩
structure S27 where
 f0 : ByteArray
 f1 : ByteArray
 f2 : Bool
def z27 : S27 := ⟨(⟨#[]⟩ : ByteArray), (⟨#[]⟩ : ByteArray), false⟩
def k27 : Kd S27 := Kd.iso (Kd.pair Kd.string (Kd.pair Kd.string Kd.bool)) (fun x : S27 => (x.f0, x.f1, x.f2))
theorem k27_open {w : World} {x : S27} {cs : List Value} (h : k27.K w x cs) : cs = [.string x.f0, .string x.f1, .bool x.f2] := by
 obtain ⟨_, _, rfl, rfl, ⟨_, _, rfl, rfl, rfl⟩⟩ := h
 exact rfl
def rd_T27 (xs : List S27) (i : Int) : S27 := xs.getD i.toNat z27
theorem at_T27 {w : World} {A : Option Addr} {n : Nat} {xs : List S27} (h : Kd.C k27 w A n xs) (i : Int) (h0 : 0 ≤ i) (h1 : i < n) : ∃ ad , A = some ad ∧ w.cell? (ad.add (i.toNat * 3)) = some (.string (rd_T27 xs i).f0) ∧ w.cell? ⟨(ad.add (i.toNat * 3)).block, (ad.add (i.toNat * 3)).off + 1, none⟩ = some (.string (rd_T27 xs i).f1) ∧ w.cell? ⟨(ad.add (i.toNat * 3)).block, (ad.add (i.toNat * 3)).off + 2, none⟩ = some (.bool (rd_T27 xs i).f2) := by
 obtain ⟨ad, c, e, _, hK, hc0⟩ := Kd.C_get h z27 i h0 h1
 have hc : ∀ j u, c[j]? = some u → w.cell? (ad.add (i.toNat * 3 + j)) = some u := hc0
 obtain rfl := k27_open hK
 exact ⟨ad, e, hc 0 _ rfl, by rw [← add_field _ _ 1 (by omega)]; exact hc 1 _ rfl, by rw [← add_field _ _ 2 (by omega)]; exact hc 2 _ rfl⟩
structure S52 where
 f0 : Int
 f1 : Int
 f2 : Int
def z52 : S52 := ⟨(0 : Int), (0 : Int), (0 : Int)⟩
def k52 : Kd S52 := Kd.iso (Kd.pair (Kd.int .i64) (Kd.pair (Kd.int .i64) (Kd.int .i64))) (fun x : S52 => (x.f0, x.f1, x.f2))
theorem k52_open {w : World} {x : S52} {cs : List Value} (h : k52.K w x cs) : cs = [.int .i64 x.f0, .int .i64 x.f1, .int .i64 x.f2] := by
 obtain ⟨_, _, rfl, rfl, ⟨_, _, rfl, rfl, rfl⟩⟩ := h
 exact rfl
theorem k52_openM {w : World} {base : Nat} {ok : Nat → Prop} {x : S52} {cs : List Value} (h : k52.M w base ok x cs) : cs = [.int .i64 x.f0, .int .i64 x.f1, .int .i64 x.f2] := by
 obtain ⟨_, _, rfl, rfl, ⟨_, _, rfl, rfl, rfl⟩⟩ := h
 exact rfl
theorem k52_mkM (w : World) (base : Nat) (ok : Nat → Prop) (x : S52)  : k52.M w base ok x [.int .i64 x.f0, .int .i64 x.f1, .int .i64 x.f2] := ⟨[.int .i64 x.f0], [.int .i64 x.f1, .int .i64 x.f2], rfl, rfl, ⟨[.int .i64 x.f1], [.int .i64 x.f2], rfl, rfl, rfl⟩⟩
def rd_T52 (xs : List S52) (i : Int) : S52 := xs.getD i.toNat z52
theorem at_T52 {w : World} {A : Option Addr} {n : Nat} {xs : List S52} (h : Kd.C k52 w A n xs) (i : Int) (h0 : 0 ≤ i) (h1 : i < n) : ∃ ad , A = some ad ∧ w.cell? (ad.add (i.toNat * 3)) = some (.int .i64 (rd_T52 xs i).f0) ∧ w.cell? ⟨(ad.add (i.toNat * 3)).block, (ad.add (i.toNat * 3)).off + 1, none⟩ = some (.int .i64 (rd_T52 xs i).f1) ∧ w.cell? ⟨(ad.add (i.toNat * 3)).block, (ad.add (i.toNat * 3)).off + 2, none⟩ = some (.int .i64 (rd_T52 xs i).f2) := by
 obtain ⟨ad, c, e, _, hK, hc0⟩ := Kd.C_get h z52 i h0 h1
 have hc : ∀ j u, c[j]? = some u → w.cell? (ad.add (i.toNat * 3 + j)) = some u := hc0
 obtain rfl := k52_open hK
 exact ⟨ad, e, hc 0 _ rfl, by rw [← add_field _ _ 1 (by omega)]; exact hc 1 _ rfl, by rw [← add_field _ _ 2 (by omega)]; exact hc 2 _ rfl⟩
structure S53 where
 f0 : Int
 f1 : Int
 f2 : Int
def z53 : S53 := ⟨(0 : Int), (0 : Int), (0 : Int)⟩
def rd_L13 (xs : List (List Int)) (i : Int) : (List Int) := xs.getD i.toNat ([] : List Int)
theorem at_L13 {w : World} {A : Option Addr} {n : Nat} {xs : List (List Int)} (h : Kd.C (Kd.slice 3 (Kd.int .i64)) w A n xs) (i : Int) (h0 : 0 ≤ i) (h1 : i < n) : ∃ ad A0 c0, A = some ad ∧ w.cell? (ad.add i.toNat) = some (.slice A0 (rd_L13 xs i).length c0) ∧ (rd_L13 xs i).length ≤ c0 ∧ (Kd.int .i64).C w A0 (rd_L13 xs i).length (rd_L13 xs i) := by
 obtain ⟨ad, c, e, _, hK, hc0⟩ := Kd.C_get h ([] : List Int) i h0 h1
 have hc : ∀ j u, c[j]? = some u → w.cell? (ad.add (i.toNat * 1 + j)) = some u := hc0
 obtain ⟨A0, c0, rfl, l0, g0⟩ := hK
 exact ⟨ad, A0, c0, e, by have hq := hc 0 _ rfl; rwa [Nat.mul_one, Nat.add_zero] at hq, l0, g0⟩
mutual
def txn_keys.l0 : Nat → List ByteArray → List (S24) → Int → Int → Int → Int → List (S24) → List (S27) → Option (List ByteArray × List ByteArray)
 | 0, _, _, _, _, _, _, _, _ => none
 | k + 1, x2, x9, x10, x11, x2000, x2001, x2002, x2003 => if x11 < x10 then (if 0 ≤ x11 then (if x11 < (x9.length : Int) then (if x2.length < 8796093022208 then (txn_keys.l0 k (x2 ++ [(rd_T24 x9 x11).f0]) x9 x10 (wrap64 (x11 + 1)) x2000 x2001 x2002 x2003) else (none)) else (none)) else (none)) else (txn_keys.l1 k x2 ([] : List ByteArray) x2003 (x2003.length : Int) 0)
def txn_keys.l1 : Nat → List ByteArray → List ByteArray → List (S27) → Int → Int → Option (List ByteArray × List ByteArray)
 | 0, _, _, _, _, _ => none
 | k + 1, x2, x3, x22, x23, x24 => if x24 < x23 then (if 0 ≤ x24 then (if x24 < (x22.length : Int) then (if x3.length < 8796093022208 then (txn_keys.l1 k x2 (x3 ++ [(rd_T27 x22 x24).f0]) x22 x23 (wrap64 (x24 + 1))) else (none)) else (none)) else (none)) else (some (x2, x3))
end
def txn_keys.f (k : Nat) (a0_0 : Int) (a0_1 : Int) (l0_2 : List (S24)) (l0_3 : List (S27)) : Option (List ByteArray × List ByteArray) := txn_keys.l0 k ([] : List ByteArray) l0_2 (l0_2.length : Int) 0 a0_0 a0_1 l0_2 l0_3
set_option maxHeartbeats 8000000 in
set_option maxRecDepth 100000 in
theorem txn_keys.calls (k : Nat) (a0_0 : Int) (a0_1 : Int) (A0_2 : Option Addr) (c0_2 : Nat) (l0_2 : List (S24)) (A0_3 : Option Addr) (c0_3 : Nat) (l0_3 : List (S27)) (r1 : List ByteArray) (r2 : List ByteArray) (w : World) (hr0_2 : Kd.C k24 w A0_2 l0_2.length l0_2) (hc0_2 : l0_2.length ≤ c0_2) (hr0_3 : Kd.C k27 w A0_3 l0_3.length l0_3) (hc0_3 : l0_3.length ≤ c0_3) (h : txn_keys.f k a0_0 a0_1 l0_2 l0_3 = some (r1, r2)) :
  Calls Try.prog 64 #[.agg #[.int .i64 a0_0, .int .i64 a0_1, .slice A0_2 l0_2.length c0_2, .slice A0_3 l0_3.length c0_3]] w fun e w' => ∃ v0_ v1_ : Value, e = .returned (.tuple #[v0_, v1_]) ∧ Kd.R Kd.string 9 w' w.heap.size (fun k_ => some k_ ≠ (v1_ : Value).ownBlock) v0_ r1 ∧ Kd.R Kd.string 9 w' w.heap.size (fun k_ => some k_ ≠ (v0_ : Value).ownBlock) v1_ r2 ∧ Below w.heap.size w w' := by
 have hu30 := Try.underlying30
 have hu24 := Try.underlying24
 have hu27 := Try.underlying27
 have HR0_2 := Aside0.mk hr0_2
 have HC0_2 := Aside0.mk hc0_2
 clear hr0_2 hc0_2
 have HR0_3 := Aside0.mk hr0_3
 have HC0_3 := Aside0.mk hc0_3
 clear hr0_3 hc0_3
 have HB := Aside0.mk (Below.refl w.heap.size w)
 have H : (txn_keys.l0 k ([] : List ByteArray) l0_2 (l0_2.length : Int) 0 a0_0 a0_1 l0_2 l0_3) = some (r1, r2) := h
 clear h
 have H' := Aside0.mk H
 clear H
 go_enter Try.func64, Try.ntmps64
 go_wp2_with (first | ((with_reducible refine gate_dst (N := 1) rfl ?_); refine box_event ?hg (N := 1) ?hd (cs := #[.int .i64 a0_0, .int .i64 a0_1, .slice A0_2 l0_2.length c0_2, .slice A0_3 l0_3.length c0_3]) (t := 30) ?hr ?_; (case hd => rfl); (case hg => rfl); (case hr => first | (go_simp; done) | (go_simp; rfl)); intro gb1 hg w2 hbox hb; have n0_ := Aside0.mk (below_step (by repeat (with_reducible first | exact HB.out | apply ba_ | apply bn_ | apply bd_)) hb); have n1_ := Aside0.mk (hbox); have n2_ := Aside0.mk ((by rw [hg]; exact (below_size (by repeat (with_reducible first | exact HB.out | apply ba_ | apply bn_ | apply bd_))) : w.heap.size ≤ gb1)); have n3_ := Aside0.mk ((by rw [hg]; exact (below_size (by repeat (with_reducible first | exact HB.out | apply ba_ | apply bn_ | apply bd_))) : w.heap.size ≤ gb1)); clear HB; have HB := n0_; have BK1 := n1_; have GW1 := n2_; have GE1 := n3_; clear n0_ n1_ n2_ n3_; clear hb hbox hg; have hcz3_0 : w2.cell? ⟨gb1, 0, none⟩ = some (.int .i64 a0_0) := (blk_cell BK1.out 0).trans rfl; have hcz3_1 : w2.cell? ⟨gb1, 1, none⟩ = some (.int .i64 a0_1) := (blk_cell BK1.out 1).trans rfl; have hcz3_2 : w2.cell? ⟨gb1, 2, none⟩ = some (.slice A0_2 l0_2.length c0_2) := (blk_cell BK1.out 2).trans rfl; have hcz3_3 : w2.cell? ⟨gb1, 3, none⟩ = some (.slice A0_3 l0_3.length c0_3) := (blk_cell BK1.out 3).trans rfl; have hfz3_0 := blk_frozen BK1.out 0; have hfz3_1 := blk_frozen BK1.out 1; have hfz3_2 := blk_frozen BK1.out 2; have hfz3_3 := blk_frozen BK1.out 3))
 go_loopg [2, 11] k (fun kq v2 v11 w' => ∃ (x2_1 : List ByteArray) (x11_1 : Int), v11 = .int .i64 x11_1 ∧ Aside0 (txn_keys.l0 kq x2_1 l0_2 (l0_2.length : Int) x11_1 a0_0 a0_1 l0_2 l0_3 = some (r1, r2)) ∧ Aside0 (kq ≤ k) ∧ Aside0 (Kd.R Kd.string 9 w' w.heap.size (fun _ => True) v2 x2_1) ∧ Aside0 (w'.heap[gb1]? = some (.cells #[.int .i64 a0_0, .int .i64 a0_1, (.slice A0_2 l0_2.length c0_2), (.slice A0_3 l0_3.length c0_3)] 30 (0, 0))) ∧ Aside0 (Below w.heap.size w w'))
 case atStart => exact ⟨(([] : List ByteArray)), (0), (by first | rfl | (simp; done) | (simp [*]; done)), H', ⟨Nat.le_refl _⟩, ⟨by first | exact Kd.R_nil _ _ _ _ _ | exact Kd.N_nil _ _ _ _ _ | exact Kd.V_nil _ _ _ _ _ | exact Kd.Q_nil _ _ _ _ _ | exact Kd.S_nil _ _ _ _ _⟩, ⟨by (with_reducible repeat (first | refine kn_ ?_ _ | refine kd_ ?_ | refine ka_ ?_ _)); exact BK1.out⟩, ⟨by repeat (with_reducible first | exact HB.out | apply ba_ | apply bn_ | apply bd_ | refine bs_ ?_ GE1.out)⟩⟩
 case round =>
  clear H'
  try clear p2
  try clear hcz3_0
  try clear hcz3_1
  try clear hcz3_2
  try clear hcz3_3
  try clear hfz3_0
  try clear hfz3_1
  try clear hfz3_2
  try clear hfz3_3
  obtain ⟨x2_1, x11_1, rfl, HA, HK1, HO_2, BK1, HB⟩ := hrel
  cases gk with
  | zero => exact absurd HA.out (by simp [txn_keys.l0])
  | succ k1 =>
   have H := HA.out
   clear HA
   simp only [txn_keys.l0] at H
   by_cases c4 : x11_1 < (l0_2.length : Int)
   ·rw [if_pos c4] at H
    have c4b0 : decide (x11_1 < (l0_2.length : Int)) = true := decide_eq_true c4
    clear c4
    by_cases c5 : 0 ≤ x11_1
    ·rw [if_pos c5] at H
     have c5b0 : decide (0 ≤ x11_1) = true := decide_eq_true c5
     clear c5
     by_cases c6 : x11_1 < (l0_2.length : Int)
     ·rw [if_pos c6] at H
      have c6b0 : decide (x11_1 < (l0_2.length : Int)) = true := decide_eq_true c6
      clear c6
      by_cases c7 : x2_1.length < 8796093022208
      ·rw [if_pos c7] at H
       have LMc7 := Aside0.mk c7
       clear c7
       obtain ⟨y4, hy4⟩ : ∃ y_ : List ByteArray, y_ = (x2_1 ++ [(rd_T24 l0_2 x11_1).f0]) := ⟨_, rfl⟩
       replace H : (txn_keys.l0 k1 y4 l0_2 (l0_2.length : Int) (wrap64 (x11_1 + 1)) a0_0 a0_1 l0_2 l0_3) = some (r1, r2) := by first | (rw [hy4]; with_reducible exact H) | (have H2_ := (Option.bind_some _ _).symm.trans H; rw [hy4]; with_reducible exact H2_) | (have H2_ := (Option.bind_some _ _).symm.trans H; with_reducible exact H2_) | with_reducible exact H | (rw [hy4]; exact H) | exact H
       have Ny4 := Aside0.mk hy4
       clear hy4
       have H' := Aside0.mk H
       clear H
       have p2 : 0 ≤ (x11_1 : Int) := of_decide_eq_true (by first | (with_reducible assumption) | assumption)
       have q2 : x11_1 < (l0_2.length : Int) := of_decide_eq_true (by first | (with_reducible assumption) | assumption)
       obtain ⟨ad2, e2, hx2_0, hx2_1, hx2_2, hx2_3⟩ := at_T24 HR0_2.out x11_1 p2 q2
       cases e2
       replace hx2_0 := (HB.out.cell (World.block_lt_of_cell? w _ hx2_0)).trans hx2_0
       replace hx2_1 := (HB.out.cell (World.block_lt_of_cell? w _ hx2_1)).trans hx2_1
       replace hx2_2 := (HB.out.cell (World.block_lt_of_cell? w _ hx2_2)).trans hx2_2
       replace hx2_3 := (HB.out.cell (World.block_lt_of_cell? w _ hx2_3)).trans hx2_3
       replace p2 := eq_true p2
       replace q2 := eq_true q2
       go_wp2_with (first | ((with_reducible refine gate_dst (N := 5) rfl ?_); refine box_event ?hg (N := 5) ?hd (cs := #[.string (⟨#[]⟩ : ByteArray), .int .i64 0, .string (⟨#[]⟩ : ByteArray), .bool false]) (t := 24) ?hr ?_; (case hd => rfl); (case hg => rfl); (case hr => first | (go_simp; done) | (go_simp; rfl)); intro gb3 hg w8 hbox hb; have n0_ := Aside0.mk (Kd.R_below (by (with_reducible repeat (first | apply ra_ | apply rn_ | apply rd_)); exact HO_2.out) hb); have n1_ := Aside0.mk (blk_below (g := gb1) (o := .cells #[.int .i64 a0_0, .int .i64 a0_1, .slice (some ad2) l0_2.length c0_2, .slice A0_3 l0_3.length c0_3] 30 (0, 0)) (by (with_reducible repeat (first | refine kn_ ?_ _ | refine kd_ ?_ | refine ka_ ?_ _)); exact BK1.out) hb); have n2_ := Aside0.mk (below_step (by repeat (with_reducible first | exact HB.out | apply ba_ | apply bn_ | apply bd_ | refine bs_ ?_ GE1.out)) hb); have n3_ := Aside0.mk (hbox); have n4_ := Aside0.mk ((by rw [hg]; exact (below_size (by repeat (with_reducible first | exact HB.out | apply ba_ | apply bn_ | apply bd_ | refine bs_ ?_ GE1.out))) : w.heap.size ≤ gb3)); have n5_ := Aside0.mk ((by rw [hg]; exact (below_size (by repeat (with_reducible first | exact HB.out | apply ba_ | apply bn_ | apply bd_ | refine bs_ ?_ GE1.out))) : w.heap.size ≤ gb3)); have n6_ := Aside0.mk ((by rw [hg]; exact Nat.ne_of_lt (blk_lt (g := gb1) (o := .cells #[.int .i64 a0_0, .int .i64 a0_1, .slice (some ad2) l0_2.length c0_2, .slice A0_3 l0_3.length c0_3] 30 (0, 0)) (by (with_reducible repeat (first | refine kn_ ?_ _ | refine kd_ ?_ | refine ka_ ?_ _)); exact BK1.out)) : gb1 ≠ gb3)); have n7_ := Aside0.mk ((by rw [hg]; exact Nat.ne_of_gt (blk_lt (g := gb1) (o := .cells #[.int .i64 a0_0, .int .i64 a0_1, .slice (some ad2) l0_2.length c0_2, .slice A0_3 l0_3.length c0_3] 30 (0, 0)) (by (with_reducible repeat (first | refine kn_ ?_ _ | refine kd_ ?_ | refine ka_ ?_ _)); exact BK1.out)) : gb3 ≠ gb1)); clear HO_2; clear BK1; clear HB; have HO_2 := n0_; have BK1 := n1_; have HB := n2_; have BK3 := n3_; have GW3 := n4_; have GE3 := n5_; have NB1_3 := n6_; have NB3_1 := n7_; clear n0_ n1_ n2_ n3_ n4_ n5_ n6_ n7_; clear hb hbox hg; have hnb9 := NB3_1.out; have hnc9 := NB1_3.out; have hcz10_0 : w8.cell? ⟨gb3, 0, none⟩ = some (.string (⟨#[]⟩ : ByteArray)) := (blk_cell BK3.out 0).trans rfl; have hcz10_1 : w8.cell? ⟨gb3, 1, none⟩ = some (.int .i64 0) := (blk_cell BK3.out 1).trans rfl; have hcz10_2 : w8.cell? ⟨gb3, 2, none⟩ = some (.string (⟨#[]⟩ : ByteArray)) := (blk_cell BK3.out 2).trans rfl; have hcz10_3 : w8.cell? ⟨gb3, 3, none⟩ = some (.bool false) := (blk_cell BK3.out 3).trans rfl; have hfz10_0 := blk_frozen BK3.out 0; have hfz10_1 := blk_frozen BK3.out 1; have hfz10_2 := blk_frozen BK3.out 2; have hfz10_3 := blk_frozen BK3.out 3) | ((with_reducible refine gate_builtin (b := .append) (xs := #[.tmp 15, .tmp 18]) rfl ?_); at_builtin; refine Kd.R_append Kd.string (w0 := w) w.heap.size rfl (.tmp 15) (.tmp 18) 68 9 (.string ⟨#[]⟩) 16 rfl Try.underlying68 info9 rfl (by decide) (by omega) u2 x2_1 ((rd_T24 l0_2 x11_1).f0) [.string ((rd_T24 l0_2 x11_1).f0)] (fun _ => True) (fun _ => False) rfl (by first | (go_simp; done) | (go_simp; rfl)) ?aP (fun _ hk => hk.elim) ?aF ?aO ?aB ?aS ?aL ?_; (case aP => exact rfl); (case aB => exact (by repeat (with_reducible first | exact HB.out | apply ba_ | apply bn_ | apply bd_ | refine bs_ ?_ GE1.out | refine bs_ ?_ GE3.out))); (case aF => exact (fun _ _ => trivial)); (case aO => exact (by (with_reducible repeat (first | apply ra_ | apply rn_ | apply rd_)); exact Kd.R_mono (Kd.R_far (p := ⟨gb3, 3, none⟩) (Kd.R_far (p := ⟨gb3, 2, none⟩) (Kd.R_far (p := ⟨gb3, 1, none⟩) (Kd.R_far (p := ⟨gb3, 0, none⟩) (Kd.R_types HO_2.out BK3.out (by decide)) (fun _ hk => hk.2) (.string ((rd_T24 l0_2 x11_1).f0))) (fun _ hk => hk.2) (.int .i64 ((rd_T24 l0_2 x11_1).f1))) (fun _ hk => hk.2) (.string ((rd_T24 l0_2 x11_1).f2))) (fun _ hk => hk.2) (.bool ((rd_T24 l0_2 x11_1).f3))) (fun _ hk => trivial))); (case aS => exact (below_size (by repeat (with_reducible first | exact HB.out | apply ba_ | apply bn_ | apply bd_ | refine bs_ ?_ GE1.out | refine bs_ ?_ GE3.out)))); (case aL => have := LMc7.out; omega); intro v5 w11 ho hb hg hat; rw [← Ny4.out] at ho; have n0_ := Aside0.mk (blk_grown (g := gb1) (o := .cells #[.int .i64 a0_0, .int .i64 a0_1, .slice (some ad2) l0_2.length c0_2, .slice A0_3 l0_3.length c0_3] 30 (0, 0)) (by (with_reducible repeat (first | refine kn_ ?_ _ | refine kd_ ?_ | refine ka_ ?_ _)); refine blk_far ?_ NB1_3.out _; (with_reducible repeat (first | refine kn_ ?_ _ | refine kd_ ?_ | refine ka_ ?_ _)); refine blk_far ?_ NB1_3.out _; (with_reducible repeat (first | refine kn_ ?_ _ | refine kd_ ?_ | refine ka_ ?_ _)); refine blk_far ?_ NB1_3.out _; (with_reducible repeat (first | refine kn_ ?_ _ | refine kd_ ?_ | refine ka_ ?_ _)); refine blk_far ?_ NB1_3.out _; (with_reducible repeat (first | refine kn_ ?_ _ | refine kd_ ?_ | refine ka_ ?_ _)); exact BK1.out) hg (Kd.R_ne HO_2.out BK1.out (by decide))); have n1_ := Aside0.mk (blk_grown (g := gb3) (o := .cells #[.string ((rd_T24 l0_2 x11_1).f0), .int .i64 ((rd_T24 l0_2 x11_1).f1), .string ((rd_T24 l0_2 x11_1).f2), .bool ((rd_T24 l0_2 x11_1).f3)] 24 (0, 0)) (by (with_reducible repeat (first | refine kn_ ?_ _ | refine kd_ ?_ | refine ka_ ?_ _)); refine blk_put (cs := #[.string ((rd_T24 l0_2 x11_1).f0), .int .i64 ((rd_T24 l0_2 x11_1).f1), .string ((rd_T24 l0_2 x11_1).f2), .bool false]) ?_ 3 _ rfl; (with_reducible repeat (first | refine kn_ ?_ _ | refine kd_ ?_ | refine ka_ ?_ _)); refine blk_put (cs := #[.string ((rd_T24 l0_2 x11_1).f0), .int .i64 ((rd_T24 l0_2 x11_1).f1), .string (⟨#[]⟩ : ByteArray), .bool false]) ?_ 2 _ rfl; (with_reducible repeat (first | refine kn_ ?_ _ | refine kd_ ?_ | refine ka_ ?_ _)); refine blk_put (cs := #[.string ((rd_T24 l0_2 x11_1).f0), .int .i64 0, .string (⟨#[]⟩ : ByteArray), .bool false]) ?_ 1 _ rfl; (with_reducible repeat (first | refine kn_ ?_ _ | refine kd_ ?_ | refine ka_ ?_ _)); refine blk_put (cs := #[.string (⟨#[]⟩ : ByteArray), .int .i64 0, .string (⟨#[]⟩ : ByteArray), .bool false]) ?_ 0 _ rfl; (with_reducible repeat (first | refine kn_ ?_ _ | refine kd_ ?_ | refine ka_ ?_ _)); exact BK3.out) hg (Kd.R_ne HO_2.out BK3.out (by decide))); have n2_ := Aside0.mk (hb); have n3_ := Aside0.mk (ho); clear BK1; clear BK3; clear HB; clear HO_2; have BK1 := n0_; have BK3 := n1_; have HB := n2_; have HO6 := n3_; clear n0_ n1_ n2_ n3_; clear ho hb hg hat))
       go_roundg k1
       case measure => have := HK1.out; omega
       case rel => exact ⟨(y4), (wrap64 (x11_1 + 1)), (by first | rfl | (simp; done) | (simp [*]; done)), H', ⟨by have := HK1.out; omega⟩, ⟨by (with_reducible repeat (first | apply ra_ | apply rn_ | apply rd_)); exact HO6.out⟩, ⟨by (with_reducible repeat (first | refine kn_ ?_ _ | refine kd_ ?_ | refine ka_ ?_ _)); exact BK1.out⟩, ⟨by repeat (with_reducible first | exact HB.out | apply ba_ | apply bn_ | apply bd_ | refine bs_ ?_ GE1.out | refine bs_ ?_ GE3.out)⟩⟩
      ·rw [if_neg c7] at H
       exact absurd H (by simp)
     ·rw [if_neg c6] at H
      exact absurd H (by simp)
    ·rw [if_neg c5] at H
     exact absurd H (by simp)
   ·rw [if_neg c4] at H
    have c4b0 : decide (x11_1 < (l0_2.length : Int)) = false := decide_eq_false c4
    clear c4
    have H' := Aside0.mk H
    clear H
    have hcz12_0 : wr.cell? ⟨gb1, 0, none⟩ = some (.int .i64 a0_0) := (blk_cell BK1.out 0).trans rfl
    have hcz12_1 : wr.cell? ⟨gb1, 1, none⟩ = some (.int .i64 a0_1) := (blk_cell BK1.out 1).trans rfl
    have hcz12_2 : wr.cell? ⟨gb1, 2, none⟩ = some (.slice A0_2 l0_2.length c0_2) := (blk_cell BK1.out 2).trans rfl
    have hcz12_3 : wr.cell? ⟨gb1, 3, none⟩ = some (.slice A0_3 l0_3.length c0_3) := (blk_cell BK1.out 3).trans rfl
    have hfz12_0 := blk_frozen BK1.out 0
    have hfz12_1 := blk_frozen BK1.out 1
    have hfz12_2 := blk_frozen BK1.out 2
    have hfz12_3 := blk_frozen BK1.out 3
    go_wp2
    go_loopg [3, 24] k1 (fun kq v3 v24 w' => ∃ (x3_2 : List ByteArray) (x24_2 : Int), v24 = .int .i64 x24_2 ∧ Aside0 (txn_keys.l1 kq x2_1 x3_2 l0_3 (l0_3.length : Int) x24_2 = some (r1, r2)) ∧ Aside0 (kq ≤ k1) ∧ Aside0 (Kd.R Kd.string 9 w' w.heap.size (fun k_ => some k_ ≠ (v3 : Value).ownBlock) u2 x2_1) ∧ Aside0 (Kd.R Kd.string 9 w' w.heap.size (fun k_ => some k_ ≠ (u2 : Value).ownBlock) v3 x3_2) ∧ Aside0 (w'.heap[gb1]? = some (.cells #[.int .i64 a0_0, .int .i64 a0_1, (.slice A0_2 l0_2.length c0_2), (.slice A0_3 l0_3.length c0_3)] 30 (0, 0))) ∧ Aside0 (Below w.heap.size w w'))
    case atStart => exact ⟨(([] : List ByteArray)), (0), (by first | rfl | (simp; done) | (simp [*]; done)), H', ⟨Nat.le_refl _⟩, ⟨by (with_reducible repeat (first | apply ra_ | apply rn_ | apply rd_)); exact Kd.R_mono HO_2.out (fun _ hk => (by simp [Value.ownBlock]))⟩, ⟨by first | exact Kd.R_nil _ _ _ _ _ | exact Kd.N_nil _ _ _ _ _ | exact Kd.V_nil _ _ _ _ _ | exact Kd.Q_nil _ _ _ _ _ | exact Kd.S_nil _ _ _ _ _⟩, ⟨by (with_reducible repeat (first | refine kn_ ?_ _ | refine kd_ ?_ | refine ka_ ?_ _)); exact BK1.out⟩, ⟨by repeat (with_reducible first | exact HB.out | apply ba_ | apply bn_ | apply bd_ | refine bs_ ?_ GE1.out)⟩⟩
    case round =>
     clear H'
     try clear p2
     try clear q2
     try clear hx2
     try clear c4
     try clear c4b0
     try clear c5
     try clear c5b0
     try clear c6
     try clear c6b0
     try clear p6
     try clear c7
     try clear c9
     try clear hcz10_0
     try clear hcz10_1
     try clear hcz10_2
     try clear hcz10_3
     try clear hcz12_0
     try clear hcz12_1
     try clear hcz12_2
     try clear hcz12_3
     try clear hcz3_0
     try clear hcz3_1
     try clear hcz3_2
     try clear hcz3_3
     try clear hfz10_0
     try clear hfz10_1
     try clear hfz10_2
     try clear hfz10_3
     try clear hfz12_0
     try clear hfz12_1
     try clear hfz12_2
     try clear hfz12_3
     try clear hfz3_0
     try clear hfz3_1
     try clear hfz3_2
     try clear hfz3_3
     try clear hx2_0
     try clear hx2_1
     try clear hx2_2
     try clear hx2_3
     try clear p2
     try clear q2
     obtain ⟨x3_2, x24_2, rfl, HA, HK2, HO_2, HO_3, BK1, HB⟩ := hrel
     cases gk with
     | zero => exact absurd HA.out (by simp [txn_keys.l1])
     | succ k2 =>
      have H := HA.out
      clear HA
      simp only [txn_keys.l1] at H
      by_cases c13 : x24_2 < (l0_3.length : Int)
      ·rw [if_pos c13] at H
       have c13b0 : decide (x24_2 < (l0_3.length : Int)) = true := decide_eq_true c13
       clear c13
       by_cases c14 : 0 ≤ x24_2
       ·rw [if_pos c14] at H
        have c14b0 : decide (0 ≤ x24_2) = true := decide_eq_true c14
        clear c14
        by_cases c15 : x24_2 < (l0_3.length : Int)
        ·rw [if_pos c15] at H
         have c15b0 : decide (x24_2 < (l0_3.length : Int)) = true := decide_eq_true c15
         clear c15
         by_cases c16 : x3_2.length < 8796093022208
         ·rw [if_pos c16] at H
          have LMc16 := Aside0.mk c16
          clear c16
          obtain ⟨y9, hy9⟩ : ∃ y_ : List ByteArray, y_ = (x3_2 ++ [(rd_T27 l0_3 x24_2).f0]) := ⟨_, rfl⟩
          replace H : (txn_keys.l1 k2 x2_1 y9 l0_3 (l0_3.length : Int) (wrap64 (x24_2 + 1))) = some (r1, r2) := by first | (rw [hy9]; with_reducible exact H) | (have H2_ := (Option.bind_some _ _).symm.trans H; rw [hy9]; with_reducible exact H2_) | (have H2_ := (Option.bind_some _ _).symm.trans H; with_reducible exact H2_) | with_reducible exact H | (rw [hy9]; exact H) | exact H
          have Ny9 := Aside0.mk hy9
          clear hy9
          have H' := Aside0.mk H
          clear H
          have p7 : 0 ≤ (x24_2 : Int) := of_decide_eq_true (by first | (with_reducible assumption) | assumption)
          have q7 : x24_2 < (l0_3.length : Int) := of_decide_eq_true (by first | (with_reducible assumption) | assumption)
          obtain ⟨ad7, e7, hx7_0, hx7_1, hx7_2⟩ := at_T27 HR0_3.out x24_2 p7 q7
          cases e7
          replace hx7_0 := (HB.out.cell (World.block_lt_of_cell? w _ hx7_0)).trans hx7_0
          replace hx7_1 := (HB.out.cell (World.block_lt_of_cell? w _ hx7_1)).trans hx7_1
          replace hx7_2 := (HB.out.cell (World.block_lt_of_cell? w _ hx7_2)).trans hx7_2
          replace p7 := eq_true p7
          replace q7 := eq_true q7
          go_wp2_with (first | ((with_reducible refine gate_dst (N := 7) rfl ?_); refine box_event ?hg (N := 7) ?hd (cs := #[.string (⟨#[]⟩ : ByteArray), .string (⟨#[]⟩ : ByteArray), .bool false]) (t := 27) ?hr ?_; (case hd => rfl); (case hg => rfl); (case hr => first | (go_simp; done) | (go_simp; rfl)); intro gb8 hg w17 hbox hb; have n0_ := Aside0.mk (Kd.R_below (by (with_reducible repeat (first | apply ra_ | apply rn_ | apply rd_)); exact HO_2.out) hb); have n1_ := Aside0.mk (Kd.R_below (by (with_reducible repeat (first | apply ra_ | apply rn_ | apply rd_)); exact HO_3.out) hb); have n2_ := Aside0.mk (blk_below (g := gb1) (o := .cells #[.int .i64 a0_0, .int .i64 a0_1, .slice A0_2 l0_2.length c0_2, .slice (some ad7) l0_3.length c0_3] 30 (0, 0)) (by (with_reducible repeat (first | refine kn_ ?_ _ | refine kd_ ?_ | refine ka_ ?_ _)); exact BK1.out) hb); have n3_ := Aside0.mk (below_step (by repeat (with_reducible first | exact HB.out | apply ba_ | apply bn_ | apply bd_ | refine bs_ ?_ GE1.out)) hb); have n4_ := Aside0.mk (hbox); have n5_ := Aside0.mk ((by rw [hg]; exact (below_size (by repeat (with_reducible first | exact HB.out | apply ba_ | apply bn_ | apply bd_ | refine bs_ ?_ GE1.out))) : w.heap.size ≤ gb8)); have n6_ := Aside0.mk ((by rw [hg]; exact (below_size (by repeat (with_reducible first | exact HB.out | apply ba_ | apply bn_ | apply bd_ | refine bs_ ?_ GE1.out))) : w.heap.size ≤ gb8)); have n7_ := Aside0.mk ((by rw [hg]; exact Nat.ne_of_lt (blk_lt (g := gb1) (o := .cells #[.int .i64 a0_0, .int .i64 a0_1, .slice A0_2 l0_2.length c0_2, .slice (some ad7) l0_3.length c0_3] 30 (0, 0)) (by (with_reducible repeat (first | refine kn_ ?_ _ | refine kd_ ?_ | refine ka_ ?_ _)); exact BK1.out)) : gb1 ≠ gb8)); have n8_ := Aside0.mk ((by rw [hg]; exact Nat.ne_of_gt (blk_lt (g := gb1) (o := .cells #[.int .i64 a0_0, .int .i64 a0_1, .slice A0_2 l0_2.length c0_2, .slice (some ad7) l0_3.length c0_3] 30 (0, 0)) (by (with_reducible repeat (first | refine kn_ ?_ _ | refine kd_ ?_ | refine ka_ ?_ _)); exact BK1.out)) : gb8 ≠ gb1)); clear HO_2; clear HO_3; clear BK1; clear HB; have HO_2 := n0_; have HO_3 := n1_; have BK1 := n2_; have HB := n3_; have BK8 := n4_; have GW8 := n5_; have GE8 := n6_; have NB1_8 := n7_; have NB8_1 := n8_; clear n0_ n1_ n2_ n3_ n4_ n5_ n6_ n7_ n8_; clear hb hbox hg; have hnb18 := NB8_1.out; have hnc18 := NB1_8.out; have hcz19_0 : w17.cell? ⟨gb8, 0, none⟩ = some (.string (⟨#[]⟩ : ByteArray)) := (blk_cell BK8.out 0).trans rfl; have hcz19_1 : w17.cell? ⟨gb8, 1, none⟩ = some (.string (⟨#[]⟩ : ByteArray)) := (blk_cell BK8.out 1).trans rfl; have hcz19_2 : w17.cell? ⟨gb8, 2, none⟩ = some (.bool false) := (blk_cell BK8.out 2).trans rfl; have hfz19_0 := blk_frozen BK8.out 0; have hfz19_1 := blk_frozen BK8.out 1; have hfz19_2 := blk_frozen BK8.out 2) | ((with_reducible refine gate_builtin (b := .append) (xs := #[.tmp 28, .tmp 31]) rfl ?_); at_builtin; refine Kd.R_append Kd.string (w0 := w) w.heap.size rfl (.tmp 28) (.tmp 31) 68 9 (.string ⟨#[]⟩) 16 rfl Try.underlying68 info9 rfl (by decide) (by omega) u3 x3_2 ((rd_T27 l0_3 x24_2).f0) [.string ((rd_T27 l0_3 x24_2).f0)] (fun k_ => some k_ ≠ (u2 : Value).ownBlock) (fun _ => False) rfl (by first | (go_simp; done) | (go_simp; rfl)) ?aP (fun _ hk => hk.elim) ?aF ?aO ?aB ?aS ?aL ?_; (case aP => exact rfl); (case aB => exact (by repeat (with_reducible first | exact HB.out | apply ba_ | apply bn_ | apply bd_ | refine bs_ ?_ GE1.out | refine bs_ ?_ GE8.out))); (case aF => exact (fun k_ hk => Kd.fresh' (Kd.R_lt (by (with_reducible repeat (first | apply ra_ | apply rn_ | apply rd_)); exact (Kd.R_mono (Kd.R_far (p := ⟨gb8, 2, none⟩) (Kd.R_far (p := ⟨gb8, 1, none⟩) (Kd.R_far (p := ⟨gb8, 0, none⟩) (Kd.R_types HO_2.out BK8.out (by decide)) (fun _ hk => hk.2) (.string ((rd_T27 l0_3 x24_2).f0))) (fun _ hk => hk.2) (.string ((rd_T27 l0_3 x24_2).f1))) (fun _ hk => hk.2) (.bool ((rd_T27 l0_3 x24_2).f2))) (fun _ h_ => h_.1)))) k_ hk)); (case aO => exact (by (with_reducible repeat (first | apply ra_ | apply rn_ | apply rd_)); exact Kd.R_mono (Kd.R_far (p := ⟨gb8, 2, none⟩) (Kd.R_far (p := ⟨gb8, 1, none⟩) (Kd.R_far (p := ⟨gb8, 0, none⟩) (Kd.R_types HO_3.out BK8.out (by decide)) (fun _ hk => hk.2) (.string ((rd_T27 l0_3 x24_2).f0))) (fun _ hk => hk.2) (.string ((rd_T27 l0_3 x24_2).f1))) (fun _ hk => hk.2) (.bool ((rd_T27 l0_3 x24_2).f2))) (fun _ hk => hk.1))); (case aS => exact (below_size (by repeat (with_reducible first | exact HB.out | apply ba_ | apply bn_ | apply bd_ | refine bs_ ?_ GE1.out | refine bs_ ?_ GE8.out)))); (case aL => have := LMc16.out; omega); intro v10 w20 ho hb hg hat; rw [← Ny9.out] at ho; have n0_ := Aside0.mk (Kd.R_after (ok := (fun _ => True)) (by (with_reducible repeat (first | apply ra_ | apply rn_ | apply rd_)); exact Kd.R_mono (Kd.R_far (p := ⟨gb8, 2, none⟩) (Kd.R_far (p := ⟨gb8, 1, none⟩) (Kd.R_far (p := ⟨gb8, 0, none⟩) (Kd.R_types HO_2.out BK8.out (by decide)) (fun _ hk => hk.2) (.string ((rd_T27 l0_3 x24_2).f0))) (fun _ hk => hk.2) (.string ((rd_T27 l0_3 x24_2).f1))) (fun _ hk => hk.2) (.bool ((rd_T27 l0_3 x24_2).f2))) (fun _ hk => ⟨trivial, hk.1⟩)) hg hat); have n1_ := Aside0.mk (blk_grown (g := gb1) (o := .cells #[.int .i64 a0_0, .int .i64 a0_1, .slice A0_2 l0_2.length c0_2, .slice (some ad7) l0_3.length c0_3] 30 (0, 0)) (by (with_reducible repeat (first | refine kn_ ?_ _ | refine kd_ ?_ | refine ka_ ?_ _)); refine blk_far ?_ NB1_8.out _; (with_reducible repeat (first | refine kn_ ?_ _ | refine kd_ ?_ | refine ka_ ?_ _)); refine blk_far ?_ NB1_8.out _; (with_reducible repeat (first | refine kn_ ?_ _ | refine kd_ ?_ | refine ka_ ?_ _)); refine blk_far ?_ NB1_8.out _; (with_reducible repeat (first | refine kn_ ?_ _ | refine kd_ ?_ | refine ka_ ?_ _)); exact BK1.out) hg (Kd.R_ne HO_3.out BK1.out (by decide))); have n2_ := Aside0.mk (blk_grown (g := gb8) (o := .cells #[.string ((rd_T27 l0_3 x24_2).f0), .string ((rd_T27 l0_3 x24_2).f1), .bool ((rd_T27 l0_3 x24_2).f2)] 27 (0, 0)) (by (with_reducible repeat (first | refine kn_ ?_ _ | refine kd_ ?_ | refine ka_ ?_ _)); refine blk_put (cs := #[.string ((rd_T27 l0_3 x24_2).f0), .string ((rd_T27 l0_3 x24_2).f1), .bool false]) ?_ 2 _ rfl; (with_reducible repeat (first | refine kn_ ?_ _ | refine kd_ ?_ | refine ka_ ?_ _)); refine blk_put (cs := #[.string ((rd_T27 l0_3 x24_2).f0), .string (⟨#[]⟩ : ByteArray), .bool false]) ?_ 1 _ rfl; (with_reducible repeat (first | refine kn_ ?_ _ | refine kd_ ?_ | refine ka_ ?_ _)); refine blk_put (cs := #[.string (⟨#[]⟩ : ByteArray), .string (⟨#[]⟩ : ByteArray), .bool false]) ?_ 0 _ rfl; (with_reducible repeat (first | refine kn_ ?_ _ | refine kd_ ?_ | refine ka_ ?_ _)); exact BK8.out) hg (Kd.R_ne HO_3.out BK8.out (by decide))); have n3_ := Aside0.mk (hb); have n4_ := Aside0.mk (ho); clear HO_2; clear BK1; clear BK8; clear HB; clear HO_3; have HO_2 := n0_; have BK1 := n1_; have BK8 := n2_; have HB := n3_; have HO11 := n4_; clear n0_ n1_ n2_ n3_ n4_; clear ho hb hg hat))
          go_roundg k2
          case measure => have := HK1.out; have := HK2.out; omega
          case rel => exact ⟨(y9), (wrap64 (x24_2 + 1)), (by first | rfl | (simp; done) | (simp [*]; done)), H', ⟨by have := HK1.out; have := HK2.out; omega⟩, ⟨by (with_reducible repeat (first | apply ra_ | apply rn_ | apply rd_)); exact Kd.R_mono HO_2.out (fun _ hk => hk.2)⟩, ⟨by (with_reducible repeat (first | apply ra_ | apply rn_ | apply rd_)); exact HO11.out⟩, ⟨by (with_reducible repeat (first | refine kn_ ?_ _ | refine kd_ ?_ | refine ka_ ?_ _)); exact BK1.out⟩, ⟨by repeat (with_reducible first | exact HB.out | apply ba_ | apply bn_ | apply bd_ | refine bs_ ?_ GE1.out | refine bs_ ?_ GE8.out)⟩⟩
         ·rw [if_neg c16] at H
          exact absurd H (by simp)
        ·rw [if_neg c15] at H
         exact absurd H (by simp)
       ·rw [if_neg c14] at H
        exact absurd H (by simp)
      ·rw [if_neg c13] at H
       have c13b0 : decide (x24_2 < (l0_3.length : Int)) = false := decide_eq_false c13
       clear c13
       simp only [Option.some.injEq, Prod.mk.injEq] at H
       obtain ⟨rfl, rfl⟩ := H
       go_wp2
       go_ret2
       exact ⟨_, _, by first | rfl | (simp [errW_none, errW_some] <;> rfl) | (simp [*, errW_none, errW_some] <;> rfl), by (with_reducible repeat (first | apply ra_ | apply rn_ | apply rd_)); exact HO_2.out, by (with_reducible repeat (first | apply ra_ | apply rn_ | apply rd_)); exact HO_3.out, by repeat (with_reducible first | exact HB.out | apply ba_ | apply bn_ | apply bd_ | refine bs_ ?_ GE1.out)⟩
def key_Shard.l0 : Nat → ByteArray → Int → Int → Int → Int → Option (Int)
 | 0, _, _, _, _, _ => none
 | k + 1, x0, x1, x5, x10, x11 => if x11 < x10 then (if 0 ≤ x11 then (if x11 < (x0.size : Int) then (if x1 = 0 then (none) else (key_Shard.l0 k x0 x1 (Int.tmod (wrap64 (x5 + (Int.tmod (wrap64 (bt x0 x11)) x1))) x1) x10 (wrap64 (x11 + 1)))) else (none)) else (none)) else (some x5)
def key_Shard.f (k : Nat) (a0 : ByteArray) (a1 : Int) : Option (Int) := if a1 < 1 then (some 0) else (key_Shard.l0 k a0 a1 0 (a0.size : Int) 0)
set_option maxHeartbeats 8000000 in
set_option maxRecDepth 100000 in
theorem key_Shard.calls (k : Nat) (a0 : ByteArray) (a1 : Int) (r : Int) (w : World) (h : key_Shard.f k a0 a1 = some r) :
  Calls Try.prog 81 #[.string a0, .int .i64 a1] w fun e w' => e = .returned (.int .i64 r) ∧ Drawn0 w w' := by
 have H : (if a1 < 1 then (some 0) else (key_Shard.l0 k a0 a1 0 (a0.size : Int) 0)) = some r := h
 clear h
 by_cases c3 : a1 < 1
 ·rw [if_pos c3] at H
  have c3b0 : decide (a1 < 1) = true := decide_eq_true c3
  clear c3
  obtain rfl := Option.some.inj H
  go_enter Try.func81, Try.ntmps81
  go_wp2
  go_ret
  exact ⟨by first | rfl | (simp; done) | (simp [*]; done), by repeat (first | exact Drawn0.refl _ | apply Drawn0.step)⟩
 ·rw [if_neg c3] at H
  have c3b0 : decide (a1 < 1) = false := decide_eq_false c3
  clear c3
  have H' := Aside0.mk H
  clear H
  go_enter Try.func81, Try.ntmps81
  go_wp2
  go_loopg [5, 11] k (fun kq v5 v11 w' => ∃ (x5_1 : Int) (x11_1 : Int), v5 = .int .i64 x5_1 ∧ v11 = .int .i64 x11_1 ∧ Aside0 (key_Shard.l0 kq a0 a1 x5_1 (a0.size : Int) x11_1 = some r) ∧ Aside0 (kq ≤ k) ∧ Drawn0 w w')
  case atStart => exact ⟨(0), (0), (by first | rfl | (simp; done) | (simp [*]; done)), (by first | rfl | (simp; done) | (simp [*]; done)), H', ⟨Nat.le_refl _⟩, by repeat (first | exact Drawn0.refl _ | apply Drawn0.step)⟩
  case round =>
   clear H'
   try clear p2
   try clear c3
   try clear c3b0
   obtain ⟨x5_1, x11_1, rfl, rfl, HA, HK1, ⟨m1, rfl⟩⟩ := hrel
   cases gk with
   | zero => exact absurd HA.out (by simp [key_Shard.l0])
   | succ k1 =>
    have H := HA.out
    clear HA
    simp only [key_Shard.l0] at H
    by_cases c4 : x11_1 < (a0.size : Int)
    ·rw [if_pos c4] at H
     have c4b0 : decide (x11_1 < (a0.size : Int)) = true := decide_eq_true c4
     clear c4
     by_cases c5 : 0 ≤ x11_1
     ·rw [if_pos c5] at H
      have c5b0 : decide (0 ≤ x11_1) = true := decide_eq_true c5
      clear c5
      by_cases c6 : x11_1 < (a0.size : Int)
      ·rw [if_pos c6] at H
       have c6b0 : decide (x11_1 < (a0.size : Int)) = true := decide_eq_true c6
       clear c6
       by_cases c8 : a1 = 0
       ·rw [if_pos c8] at H
        exact absurd H (by simp)
       ·rw [if_neg c8] at H
        have c8b0 : (a1 == 0) = false := beq_eq_false_iff_ne.mpr c8
        have c8b1 : (a1 != 0) = true := bne_iff_ne.mpr c8
        have H' := Aside0.mk H
        clear H
        have p7 : 0 ≤ (x11_1 : Int) := of_decide_eq_true (by first | (with_reducible assumption) | assumption)
        have q7 : x11_1 < (a0.size : Int) := of_decide_eq_true (by first | (with_reducible assumption) | assumption)
        have hx7 := bt_at a0 x11_1
        replace p7 := eq_true p7
        replace q7 := eq_true q7
        go_wp2
        go_roundg k1
        case measure => have := HK1.out; omega
        case rel => exact ⟨(Int.tmod (wrap64 (x5_1 + (Int.tmod (wrap64 (bt a0 x11_1)) a1))) a1), (wrap64 (x11_1 + 1)), (by first | rfl | (simp; done) | (simp [*]; done)), (by first | rfl | (simp; done) | (simp [*]; done)), H', ⟨by have := HK1.out; omega⟩, by repeat (first | exact Drawn0.refl _ | apply Drawn0.step)⟩
      ·rw [if_neg c6] at H
       exact absurd H (by simp)
     ·rw [if_neg c5] at H
      exact absurd H (by simp)
    ·rw [if_neg c4] at H
     have c4b0 : decide (x11_1 < (a0.size : Int)) = false := decide_eq_false c4
     clear c4
     obtain rfl := Option.some.inj H
     go_wp2
     go_ret
     exact ⟨by first | rfl | (simp; done) | (simp [*]; done), by repeat (first | exact Drawn0.refl _ | apply Drawn0.step)⟩
end Go.Proofs.Ytnlfhbohcgjcbaa.PA
namespace Go.Proofs
open Go.Shelf
def Try.lays215_ren : Go.Shelf.Ren := ⟨fun | 215 => 170 | n => n, fun | 3 => 3 | 4 => 4 | n => n, fun | n => n⟩
theorem Try.lays215 : Go.Proofs.Lays.n215 Try.prog Try.lays215_ren := {
 mixed := by kernel_rfl
 f215 := Try.func170.trans (congrArg some (by kernel_rfl))
 t3 := Try.underlying3
 a3 := Try.isAgg3
 z3 := Try.sizeOf3
 v3 := Try.zeroValue3
 t4 := Try.underlying4
 a4 := Try.isAgg4
 z4 := Try.sizeOf4
 v4 := Try.zeroValue4 }
open Go.RowKit in
/-- cmp.isNaN at int: 'x != x': false. (LAID: no walk: one application.) -/
theorem Try.cmp_isNaN_int (x : Int) (w : World) :
  Calls Try.prog 170 #[.int .i64 x] w fun e w' => e = .returned (.bool false) ∧ w' = w := Any.cmp_isNaN_int Try.lays215 x w
def Try.lays122_ren : Go.Shelf.Ren := ⟨fun | 122 => 134 | 215 => 170 | n => n, fun | 3 => 3 | 4 => 4 | n => n, fun | n => n⟩
theorem Try.lays122 : Go.Proofs.Lays.n122 Try.prog Try.lays122_ren := {
 mixed := by kernel_rfl
 f122 := Try.func134.trans (congrArg some (by kernel_rfl))
 f215 := Try.func170.trans (congrArg some (by kernel_rfl))
 t3 := Try.underlying3
 a3 := Try.isAgg3
 z3 := Try.sizeOf3
 v3 := Try.zeroValue3
 t4 := Try.underlying4
 a4 := Try.isAgg4
 z4 := Try.sizeOf4
 v4 := Try.zeroValue4 }
open Go.RowKit in
/-- cmp.Compare at int: "Compare returns -1 if x is less than y, 0 if x equals y, +1 if x is greater than y.": IT RETURNS 'Lib.compareInt x y'; the world is as it was. (LAID: no walk: one application.) -/
theorem Try.cmp_Compare_int (x y : Int) (w : World) :
  Calls Try.prog 134 #[.int .i64 x, .int .i64 y] w fun e w' => e = .returned (.int .i64 (Lib.compareInt x y)) ∧ w' = w := Any.cmp_Compare_int Try.lays122 x y w
def Try.lays189_ren : Go.Shelf.Ren := ⟨fun | 189 => 82 | 125 => 128 | 257 => 127 | 128 => 168 | 129 => 169 | 294 => 159 | 295 => 160 | 296 => 161 | 297 => 162 | 298 => 163 | 299 => 164 | 216 => 165 | 300 => 166 | 301 => 167 | 328 => 176 | 329 => 177 | 330 => 178 | 331 => 179 | 332 => 180 | 215 => 170 | 343 => 186 | n => n, fun | 28 => 41 | 3 => 3 | 46 => 184 | 0 => 0 | 51 => 236 | 53 => 238 | 4 => 4 | 183 => 229 | 182 => 228 | 131 => 140 | 5 => 5 | 9 => 9 | 218 => 242 | 222 => 246 | 228 => 253 | 229 => 254 | n => n, fun | n => n⟩
theorem Try.lays189 : Go.Proofs.Lays.n189 Try.prog Try.lays189_ren := {
 mixed := by kernel_rfl
 f125 := Try.func128.trans (congrArg some (by kernel_rfl))
 f128 := Try.func168.trans (congrArg some (by kernel_rfl))
 f129 := Try.func169.trans (congrArg some (by kernel_rfl))
 f189 := Try.func82.trans (congrArg some (by kernel_rfl))
 f215 := Try.func170.trans (congrArg some (by kernel_rfl))
 f216 := Try.func165.trans (congrArg some (by kernel_rfl))
 f257 := Try.func127.trans (congrArg some (by kernel_rfl))
 f294 := Try.func159.trans (congrArg some (by kernel_rfl))
 f295 := Try.func160.trans (congrArg some (by kernel_rfl))
 f296 := Try.func161.trans (congrArg some (by kernel_rfl))
 f297 := Try.func162.trans (congrArg some (by kernel_rfl))
 f298 := Try.func163.trans (congrArg some (by kernel_rfl))
 f299 := Try.func164.trans (congrArg some (by kernel_rfl))
 f300 := Try.func166.trans (congrArg some (by kernel_rfl))
 f301 := Try.func167.trans (congrArg some (by kernel_rfl))
 f328 := Try.func176.trans (congrArg some (by kernel_rfl))
 f329 := Try.func177.trans (congrArg some (by kernel_rfl))
 f330 := Try.func178.trans (congrArg some (by kernel_rfl))
 f331 := Try.func179.trans (congrArg some (by kernel_rfl))
 f332 := Try.func180.trans (congrArg some (by kernel_rfl))
 f343 := Try.func186.trans (congrArg some (by kernel_rfl))
 t0 := Try.underlying0
 a0 := Try.isAgg0
 z0 := Try.sizeOf0
 v0 := Try.zeroValue0
 t3 := Try.underlying3
 a3 := Try.isAgg3
 z3 := Try.sizeOf3
 v3 := Try.zeroValue3
 t4 := Try.underlying4
 a4 := Try.isAgg4
 z4 := Try.sizeOf4
 v4 := Try.zeroValue4
 t5 := Try.underlying5
 a5 := Try.isAgg5
 z5 := Try.sizeOf5
 v5 := Try.zeroValue5
 t9 := Try.underlying9
 a9 := Try.isAgg9
 z9 := Try.sizeOf9
 v9 := Try.zeroValue9
 t28 := Try.underlying41
 a28 := Try.isAgg41
 z28 := Try.sizeOf41
 v28 := Try.zeroValue41
 t46 := Try.underlying184
 a46 := Try.isAgg184
 z46 := Try.sizeOf184
 v46 := Try.zeroValue184
 t51 := Try.underlying236
 a51 := Try.isAgg236
 z51 := Try.sizeOf236
 v51 := Try.zeroValue236
 t53 := Try.underlying238
 a53 := Try.isAgg238
 z53 := Try.sizeOf238
 v53 := Try.zeroValue238
 t131 := Try.underlying140
 a131 := Try.isAgg140
 z131 := Try.sizeOf140
 v131 := Try.zeroValue140
 t182 := Try.underlying228
 a182 := Try.isAgg228
 z182 := Try.sizeOf228
 v182 := Try.zeroValue228
 t183 := Try.underlying229
 a183 := Try.isAgg229
 z183 := Try.sizeOf229
 v183 := Try.zeroValue229
 t218 := Try.underlying242
 a218 := Try.isAgg242
 z218 := Try.sizeOf242
 v218 := Try.zeroValue242
 t222 := Try.underlying246
 a222 := Try.isAgg246
 z222 := Try.sizeOf246
 v222 := Try.zeroValue246
 t228 := Try.underlying253
 a228 := Try.isAgg253
 z228 := Try.sizeOf253
 v228 := Try.zeroValue253
 t229 := Try.underlying254
 a229 := Try.isAgg254
 z229 := Try.sizeOf254
 v229 := Try.zeroValue254 }
open Go.Sort Go.RowKit in
theorem Try.slices_Sort_int (blk off cap : Nat) (zs : List Int) (w : World) (hH : Holds (Value.int .i64) w blk off zs.toArray) (hblk : blk < w.heap.size) (hsz : zs.length < 4611686018427387904) :
  Calls Try.prog 82 #[.slice (some ⟨blk, off, none⟩) zs.length cap] w fun e w' =>
   e = .returned (.tuple #[]) ∧ ∃ n os, w' = grow (putRow (Value.int .i64) (Sort.ahead w n) blk off (zs.mergeSort fun x y => decide (x ≤ y)).toArray) os := Any.slices_Sort_int Try.lays189 blk off cap zs w hH hblk hsz
open Go.Lib in
open Go.Lib in
open Go.Lib in
open Go.Lib in
def Try.laysNm220_ren : Go.Shelf.Ren := ⟨fun | 20 => 83 | n => n, fun | 22 => 41 | 3 => 3 | 4 => 4 | 0 => 0 | n => n, fun | n => n⟩
theorem Try.laysNm220 : Go.Proofs.Lays2.n20 Try.prog Try.laysNm220_ren := {
 mixed := by kernel_rfl
 f20 := Try.func83.trans (congrArg some (by kernel_rfl))
 t0 := Try.underlying0
 a0 := Try.isAgg0
 z0 := Try.sizeOf0
 v0 := Try.zeroValue0
 t3 := Try.underlying3
 a3 := Try.isAgg3
 z3 := Try.sizeOf3
 v3 := Try.zeroValue3
 t4 := Try.underlying4
 a4 := Try.isAgg4
 z4 := Try.sizeOf4
 v4 := Try.zeroValue4
 t22 := Try.underlying41
 a22 := Try.isAgg41
 z22 := Try.sizeOf41
 v22 := Try.zeroValue41
 i3 := by kernel_rfl }
open Go.RowKit Go.Lib Go.Sort in
open Go.RowKit Go.Lib Go.Sort in
/-- slices.Compact at []int: "Compact replaces consecutive runs of equal elements with a single copy. This is like the uniq command found on Unix. Compact modifies the contents of the slice s and returns the modified slice, which may have a smaller length. Compact zeroes the elements between the new length and the original length. The result preserves the nilness of s.": IT RETURNS THE SLICE CUT TO 'Lib.compact zs'; ITS CELLS HOLD 'Lib.compact zs', THEN ZERO VALUES up to the old length; all else is as it was, but for the count of draws. IN THE WORDS OF slices.Sort's CONTRACT ('Holds', 'putRow'): so the everyday 'slices.Sort(xs); xs = slices.Compact(xs)' goes from the one contract to the other. It asks 'zs.length ≤ cap' (every slice's: the reslicing 's[:k]' looks at it). Length 0, nil: '.._empty'. (LAID: no walk: one application.) -/
theorem Try.slices_Compact_int (blk off cap : Nat) (zs : List Int) (w : World) (hH : Holds (Value.int .i64) w blk off zs.toArray) (hsz : zs.length ≤ 9223372036854775807) (hcap : zs.length ≤ cap) :
  Calls Try.prog 83 #[.slice (some ⟨blk, off, none⟩) zs.length cap] w fun e w' => e = .returned (.slice (some ⟨blk, off, none⟩) (Lib.compact zs).length cap) ∧ ∃ q, w' = putRow (Value.int .i64) (Sort.ahead w q) blk off (Lib.compact zs ++ List.replicate (zs.length - (Lib.compact zs).length) 0).toArray := Any.slices_Compact_int Try.laysNm220 blk off cap zs w hH hsz hcap
open Go.RowKit Go.Lib Go.Sort in
/-- The same at a slice of length 0, a nil one too: it comes back as it is. (LAID: no walk: one application.) -/
theorem Try.slices_Compact_int_empty (a : Option Addr) (cap : Nat) (w : World) :
  Calls Try.prog 83 #[.slice a 0 cap] w fun e w' => e = .returned (.slice a 0 cap) ∧ w' = w := Any.slices_Compact_int_empty Try.laysNm220 a cap w
open Go.RowKit Go.Lib Go.Sort in
open Go.RowKit Go.Sort in
/-- .. and plain. (LAID: no walk: one application.) -/
theorem Try.slices_Sort_int_none (p : Option Addr) (cap : Nat) (w : World) :
  Calls Try.prog 82 #[.slice p 0 cap] w fun e w' => e = .returned (.tuple #[]) ∧ w' = w := Any.slices_Sort_int_none Try.lays189 p cap w
end Go.Proofs
namespace Go.Proofs.Ytnlfhbohcgjcbaa.HW
open Go.RowKit Go.Sort Go.Proofs.YtnlfhbohcgjcbaaW.PrintWords
set_option linter.unusedVariables false
set_option linter.unusedSimpArgs false
theorem snoc_ind {α : Type} {p : List α → Prop} (h0 : p []) (h1 : ∀ l x, p l → p (l ++ [x])) (l : List α) : p l := by
 have key : ∀ l : List α, p l.reverse := fun l => by
  induction l with
  | nil => exact h0
  | cons x l ih => rw [List.reverse_cons]; exact h1 _ _ ih
 have := key l.reverse
 rwa [List.reverse_reverse] at this
theorem getElem!_map {α : Type} [Inhabited α] (xs : List α) (j : Nat) (h : j < xs.length) : xs.toArray[j]! = xs[j] := by
 rw [getElem!_pos _ j (by simpa using h)]
 simp
/-- An owned row of one-cell elements, in the sort's words. -/
theorem holds_of_own {α : Type} [Inhabited α] {enc : α → Value} {w : World} {base e g cap : Nat} {xs : List α} (h : w.ownsRow base e 1 (.slice (some ⟨g, 0, none⟩) xs.length cap) xs.length (encs enc xs)) :
  Holds enc w g 0 xs.toArray := by
 intro j hj
 have hj' : j < xs.length := by simpa using hj
 rw [Nat.zero_add, getElem!_map xs j hj']
 constructor
 ·have hc := h.cells (g := g) rfl j (enc xs[j]) (by simp [encs, List.getElem?_eq_getElem hj'])
  rwa [add_plain] at hc
 ·rcases h.2 with ⟨h', _⟩ | ⟨g', cap', cur, h', _, hh, _⟩
  ·cases h'
  ·have : g = g' := by injection h' with h'; injection h' with h'; injection h' with h'
   subst this
   simp [World.frozen?, hh]
theorem heap_ahead (w : World) (n k : Nat) : (Sort.ahead w n).heap[k]? = w.heap[k]? := rfl
theorem heap_putRow {α : Type} [Inhabited α] (enc : α → Value) (w : World) (g off : Nat) (d : Array α) (k : Nat) (h : k ≠ g) : (putRow enc w g off d).heap[k]? = w.heap[k]? := by
 unfold putRow mapBlock
 simp only [Array.getElem?_modify]
 rw [if_neg (fun e => h e.symm)]
theorem size_putRow {α : Type} [Inhabited α] (enc : α → Value) (w : World) (g off : Nat) (d : Array α) : (putRow enc w g off d).heap.size = w.heap.size := by
 simp [putRow, mapBlock]
theorem heap_grow (w : World) (os : Array Obj) (k : Nat) (h : k < w.heap.size) : (grow w os).heap[k]? = w.heap[k]? := by
 simp only [grow]
 rw [Array.getElem?_append, if_pos h]
/-- What a call leaves that has written the row at block g (no longer than it was), and laid blocks behind. -/
theorem own_putRow {α : Type} [Inhabited α] {enc : α → Value} {w : World} {base e g cap n : Nat} {xs ys : List α} {zs : List α} (os : Array Obj)
  (h : w.ownsRow base e 1 (.slice (some ⟨g, 0, none⟩) xs.length cap) xs.length (encs enc xs)) (hl : (ys ++ zs).length = xs.length) :
  (grow (putRow enc (Sort.ahead w n) g 0 (ys ++ zs).toArray) os).ownsRow base e 1 (.slice (some ⟨g, 0, none⟩) ys.length cap) ys.length (encs enc ys) := by
 have hlt : g < w.heap.size := own_lt h g rfl
 rcases h.2 with ⟨h', _⟩ | ⟨g', cap', cur, h', hb, hh, hn, hm, hs, ht⟩
 ·cases h'
 ·injection h' with h1 h2 h3
  injection h1 with h1
  injection h1 with h1
  subst h1 h3
  refine ⟨by simp [encs], .inr ⟨g, cap, putCells enc 0 (ys ++ zs).toArray cur, rfl, hb, ?_, ?_, hm, by simpa [putCells] using hs, ?_⟩⟩
  ·rw [heap_grow _ _ _ (by rw [size_putRow]; exact hlt)]
   simp only [putRow, mapBlock, Array.getElem?_modify, if_true]
   rw [heap_ahead, hh]
   rfl
  ·simp at hl; omega
  ·apply List.ext_getElem
   ·simp [encs, putCells]; simp at hl hs; omega
   ·intro i h1 h2
    have hi : i < ys.length := by simpa [encs] using h2
    have hc : i < cur.size := by simp at hl hs; omega
    simp only [List.getElem_take, Array.getElem_toList, putCells, Array.getElem_mapIdx, Nat.zero_le, true_and, Nat.zero_add, Nat.sub_zero]
    rw [if_pos (by simp at hl ⊢; omega), getElem!_map _ _ (by simp; omega)]
    simp [encs, List.getElem_append_left hi]
theorem below_putRow {α : Type} [Inhabited α] {enc : α → Value} {w0 w : World} {g n : Nat} {d : Array α} (os : Array Obj) (h : Below w0.heap.size w0 w) (hg : w0.heap.size ≤ g) :
  Below w0.heap.size w0 (grow (putRow enc (Sort.ahead w n) g 0 d) os) := by
 refine ⟨h.os, h.tape, h.output, ?_, fun k hk => ?_⟩
 ·have h1 := h.size
  have h2 := size_putRow enc (Sort.ahead w n) g 0 d
  simp only [grow, Array.size_append]
  have h3 : (Sort.ahead w n).heap.size = w.heap.size := rfl
  omega
 ·have h1 := h.size
  rw [heap_grow _ _ _ (by rw [size_putRow]; show k < w.heap.size; omega), heap_putRow _ _ _ _ _ _ (by omega), heap_ahead]
  exact h.block k hk
theorem kept_putRow {α : Type} [Inhabited α] {enc : α → Value} {w : World} {g n : Nat} {d : Array α} {S : Nat → Prop} (os : Array Obj) (hg : S g) :
  Kept w (grow (putRow enc (Sort.ahead w n) g 0 d) os) S := by
 refine ⟨?_, fun k hk hn => ?_⟩
 ·have h2 := size_putRow enc (Sort.ahead w n) g 0 d
  simp only [grow, Array.size_append]
  have h3 : (Sort.ahead w n).heap.size = w.heap.size := rfl
  omega
 ·rw [heap_grow _ _ _ (by rw [size_putRow]; exact hk), heap_putRow _ _ _ _ _ _ (fun e => hn (by rw [e]; exact hg)), heap_ahead]
theorem grow_none (w : World) : grow w #[] = w := grow_empty w
end Go.Proofs.Ytnlfhbohcgjcbaa.HW
namespace Go.Proofs.Ytnlfhbohcgjcbaa.PA
open Go.RowKit Go.Sort Go.Proofs.YtnlfhbohcgjcbaaW.PrintWords Go.Proofs.YtnlfhbohcgjcbaaW.PrintLast Go.Proofs.YtnlfhbohcgjcbaaW.PrintMore
set_option linter.unusedVariables false
set_option linter.unusedSimpArgs false
def ins (x : Int) : List Int → List Int
 | [] => [x]
 | y :: ys => if x ≤ y then x :: y :: ys else y :: ins x ys
def isort : List Int → List Int
 | [] => []
 | x :: xs => ins x (isort xs)
theorem ins_perm (x : Int) (l : List Int) : (ins x l).Perm (x :: l) := by
 induction l with
 | nil => exact .refl _
 | cons y ys ih =>
  simp only [ins]
  split
  ·exact .refl _
  ·exact (List.Perm.cons y ih).trans (List.Perm.swap x y ys)
theorem isort_perm (l : List Int) : (isort l).Perm l := by
 induction l with
 | nil => exact .refl _
 | cons x xs ih => exact (ins_perm x _).trans (List.Perm.cons x ih)
theorem ins_sorted (x : Int) (l : List Int) (h : l.Pairwise (· ≤ ·)) : (ins x l).Pairwise (· ≤ ·) := by
 induction l with
 | nil => simp [ins]
 | cons y ys ih =>
  simp only [ins]
  split
  ·rename_i hxy
   refine List.Pairwise.cons (fun z hz => ?_) h
   rcases List.mem_cons.1 hz with rfl | hz
   ·exact hxy
   ·exact Int.le_trans hxy ((List.pairwise_cons.1 h).1 z hz)
  ·rename_i hxy
   refine List.Pairwise.cons (fun z hz => ?_) (ih (List.pairwise_cons.1 h).2)
   rcases List.mem_cons.1 ((ins_perm x ys).mem_iff.1 hz) with rfl | hz
   ·omega
   ·exact (List.pairwise_cons.1 h).1 z hz
theorem isort_sorted (l : List Int) : (isort l).Pairwise (· ≤ ·) := by
 induction l with
 | nil => exact .nil
 | cons x xs ih => exact ins_sorted x _ ih
theorem isort_length (l : List Int) : (isort l).length = l.length := (isort_perm l).length_eq
theorem mergeSort_isort (l : List Int) : (l.mergeSort fun x y => decide (x ≤ y)) = isort l := by
 refine List.Perm.eq_of_pairwise (le := fun a b : Int => a ≤ b) (fun a b _ _ h1 h2 => Int.le_antisymm h1 h2) ?_ (isort_sorted l) ((List.mergeSort_perm l _).trans (isort_perm l).symm)
 have h := List.pairwise_mergeSort (le := fun x y : Int => decide (x ≤ y)) (fun a b c h1 h2 => by simp at *; omega) (fun a b => by simp; omega) l
 exact h.imp (fun h => by simpa using h)
def runs (l : List Int) : List Int := l.foldl (fun acc x => if acc.getLast? = some x then acc else acc ++ [x]) []
theorem runs_snoc (l : List Int) (x : Int) : runs (l ++ [x]) = if (runs l).getLast? = some x then runs l else runs l ++ [x] := by
 unfold runs
 rw [List.foldl_append]
 rfl
theorem runs_last (l : List Int) : (runs l).getLast? = l.getLast? := by
 refine HW.snoc_ind (p := fun l => (runs l).getLast? = l.getLast?) rfl (fun l x ih => ?_) l
 rw [runs_snoc]
 split
 ·rename_i h; rw [h]; simp
 ·simp
theorem runs_length (l : List Int) : (runs l).length ≤ l.length := by
 refine HW.snoc_ind (p := fun l => (runs l).length ≤ l.length) (by simp [runs]) (fun l x ih => ?_) l
 rw [runs_snoc]
 split <;> simp <;> omega
theorem compact_runs (l : List Int) : Lib.compact l = runs l := by
 unfold Lib.compact
 have key : ∀ m, m ≤ l.length → Lib.compactUpTo l.toArray m = runs (l.take m) := by
  intro m
  induction m with
  | zero => intro _; simp [Lib.compactUpTo, runs]
  | succ m ih =>
   intro hm
   have hlt : m < l.length := by omega
   rw [Lib.compactUpTo_succ, ih (by omega), List.take_succ_eq_append_getElem hlt, runs_snoc, HW.getElem!_map l m hlt]
   rcases Nat.eq_zero_or_pos m with h0 | h0
   ·subst h0
    simp [Lib.keeps, runs]
   ·have hl : (runs (l.take m)).getLast? = some l[m - 1] := by
     rw [runs_last, List.getLast?_take, if_neg (by omega), List.getElem?_eq_getElem (by omega)]
     rfl
    rw [hl]
    have e1 := HW.getElem!_map l m hlt
    have e2 := HW.getElem!_map l (m - 1) (by omega)
    by_cases h : l[m] = l[m - 1]
    ·have hk : Lib.keeps l.toArray m = false := Lib.keeps_neg h0 (by rw [e1, e2]; exact h)
     rw [hk, if_neg (by simp), List.append_nil, if_pos (by rw [h])]
    ·have hk : Lib.keeps l.toArray m = true := Lib.keeps_pos (by rw [e1, e2]; exact h)
     rw [hk, if_pos rfl, if_neg (fun e => h (Option.some.inj e).symm)]
 have := key l.length (Nat.le_refl _)
 rwa [List.take_length] at this
def slices_Sort_Lint_int.f (l0 : List Int) : Option (List Int) := if l0.length < 4611686018427387904 then some (isort l0) else none
theorem slices_Sort_Lint_int.calls (P0_ : Nat → Prop) (u9000_ : Value) (l0 : List Int) (r : List Int) (w0 w : World) (hB : Below w0.heap.size w0 w) (ho0 : Kd.R (Kd.int .i64) 3 w w0.heap.size P0_ u9000_ l0) (h : slices_Sort_Lint_int.f l0 = some r) :
  Calls Try.prog 82 #[u9000_] w fun e w' => e = .returned (.tuple #[]) ∧ Kd.R (Kd.int .i64) 3 w' w0.heap.size (fun k_ => (P0_ k_ ∨ w.heap.size ≤ k_)) u9000_ r ∧ Below w0.heap.size w0 w' ∧ Kept w w' (fun k_ => P0_ k_) := by
 unfold slices_Sort_Lint_int.f at h
 split at h
 rotate_left
 ·cases h
 rename_i hmax
 obtain rfl : isort l0 = r := Option.some.inj h
 have hown := Kd.own_of_R ho0
 rcases Nat.eq_zero_or_pos l0.length with h0 | h0
 ·obtain rfl : l0 = [] := List.eq_nil_of_length_eq_zero h0
  obtain ⟨A, c, rfl⟩ := Kd.R_slice ho0
  refine (Try.slices_Sort_int_none A c w).mono ?_
  rintro e w' ⟨rfl, rfl⟩
  exact ⟨rfl, Kd.R_mono ho0 (fun k hk => .inl hk), hB, Kept.refl _ _⟩
 ·obtain ⟨g, cap, rfl, hg, hlt, _⟩ := Kd.R_form ho0 h0
  refine (Try.slices_Sort_int g 0 cap l0 w (HW.holds_of_own hown) hlt hmax).mono ?_
  rintro e w' ⟨rfl, n, os, rfl⟩
  rw [mergeSort_isort]
  have hown2 := HW.own_putRow (n := n) (ys := isort l0) (zs := []) os hown (by simp [isort_length])
  rw [List.append_nil] at hown2
  refine ⟨rfl, ?_, HW.below_putRow os hB hg, HW.kept_putRow os (ho0.1 g rfl)⟩
  have hr := Kd.R_of_own (h1 := fun _ => rfl) hown2 (ok := fun k_ => (P0_ k_ ∨ w.heap.size ≤ k_)) (fun k hk => .inl (ho0.1 k hk))
  rwa [isort_length] at hr
def slices_Compact_Lint_int.f (l0 : List Int) : Option (List Int) := some (runs l0)
theorem slices_Compact_Lint_int.calls (P0_ : Nat → Prop) (u9000_ : Value) (l0 : List Int) (r : List Int) (w0 w : World) (hB : Below w0.heap.size w0 w) (ho0 : Kd.R (Kd.int .i64) 3 w w0.heap.size P0_ u9000_ l0) (h : slices_Compact_Lint_int.f l0 = some r) :
  Calls Try.prog 83 #[u9000_] w fun e w' => ∃ v0_ : Value, e = .returned (v0_) ∧ Kd.R (Kd.int .i64) 3 w' w0.heap.size (fun k_ => (P0_ k_ ∨ w.heap.size ≤ k_)) v0_ r ∧ Below w0.heap.size w0 w' ∧ Kept w w' (fun k_ => P0_ k_) := by
 obtain rfl : runs l0 = r := Option.some.inj h
 have hown := Kd.own_of_R ho0
 rcases Nat.eq_zero_or_pos l0.length with h0 | h0
 ·obtain rfl : l0 = [] := List.eq_nil_of_length_eq_zero h0
  obtain ⟨A, c, rfl⟩ := Kd.R_slice ho0
  refine (Try.slices_Compact_int_empty A c w).mono ?_
  rintro e w' ⟨rfl, rfl⟩
  exact ⟨_, rfl, Kd.R_mono ho0 (fun k hk => .inl hk), hB, Kept.refl _ _⟩
 ·obtain ⟨g, cap, rfl, hg, hlt, _⟩ := Kd.R_form ho0 h0
  have hcap := own_le hown
  have hmax : l0.length ≤ 9223372036854775807 := by
   rcases hown.2 with ⟨h', _⟩ | ⟨g', cap', cur, h', _, hh, hn, hm, hs, _⟩
   ·cases h'
   ·simp only [maxLen] at hm; omega
  refine (Try.slices_Compact_int g 0 cap l0 w (HW.holds_of_own hown) hmax hcap).mono ?_
  rintro e w' ⟨rfl, q, rfl⟩
  rw [compact_runs]
  have hl := runs_length l0
  have hown2 := HW.own_putRow (n := q) (ys := runs l0) (zs := List.replicate (l0.length - (runs l0).length) 0) #[] hown (by simp; omega)
  rw [HW.grow_none] at hown2
  have hbel := HW.below_putRow (enc := Value.int .i64) (n := q) (d := (runs l0 ++ List.replicate (l0.length - (runs l0).length) 0).toArray) #[] hB hg
  have hkep := HW.kept_putRow (enc := Value.int .i64) (w := w) (n := q) (d := (runs l0 ++ List.replicate (l0.length - (runs l0).length) 0).toArray) (S := P0_) #[] (ho0.1 g rfl)
  rw [HW.grow_none] at hbel hkep
  exact ⟨_, rfl, Kd.R_of_own (h1 := fun _ => rfl) hown2 (fun k hk => .inl (ho0.1 k hk)), hbel, hkep⟩
end Go.Proofs.Ytnlfhbohcgjcbaa.PA
namespace Go.Proofs.Ytnlfhbohcgjcbaa.PA
open Go.RowKit Go.Proofs.YtnlfhbohcgjcbaaW.PrintWords Go.Proofs.YtnlfhbohcgjcbaaW.PrintLast Go.Proofs.YtnlfhbohcgjcbaaW.PrintMore
attribute [local go_sem] max2_int min2_int max_two min_two max_three min_three max_four min_four
set_option linter.unusedVariables false
set_option linter.unusedSimpArgs false
def txn_Reads.l0 : Nat → Int → List Int → List ByteArray → Int → Int → Option (List Int)
 | 0, _, _, _, _, _ => none
 | k + 1, x1, x4, x14, x15, x16 => if x16 < x15 then (if 0 ≤ x16 then (if x16 < (x14.length : Int) then ((key_Shard.f k (rdOf ByteArray.empty x14 x16) x1).bind fun t9 => (if x4.length < 17592186044416 then (txn_Reads.l0 k x1 (x4 ++ [t9]) x14 x15 (wrap64 (x16 + 1))) else (none))) else (none)) else (none)) else ((slices_Sort_Lint_int.f x4).bind fun t13 => ((slices_Compact_Lint_int.f t13).bind fun t14 => (some t14)))
def txn_Reads.f (k : Nat) (a0_0 : Int) (a0_1 : Int) (l0_2 : List (S24)) (l0_3 : List (S27)) (a1 : Int) : Option (List Int) := (txn_keys.f k a0_0 a0_1 l0_2 l0_3).bind fun bt2 => (txn_Reads.l0 k a1 ([] : List Int) bt2.1 (bt2.1.length : Int) 0)
set_option maxHeartbeats 8000000 in
set_option maxRecDepth 100000 in
theorem txn_Reads.calls (k : Nat) (a0_0 : Int) (a0_1 : Int) (A0_2 : Option Addr) (c0_2 : Nat) (l0_2 : List (S24)) (A0_3 : Option Addr) (c0_3 : Nat) (l0_3 : List (S27)) (a1 : Int) (r : List Int) (w : World) (hr0_2 : Kd.C k24 w A0_2 l0_2.length l0_2) (hc0_2 : l0_2.length ≤ c0_2) (hr0_3 : Kd.C k27 w A0_3 l0_3.length l0_3) (hc0_3 : l0_3.length ≤ c0_3) (h : txn_Reads.f k a0_0 a0_1 l0_2 l0_3 a1 = some r) :
  Calls Try.prog 24 #[.agg #[.int .i64 a0_0, .int .i64 a0_1, .slice A0_2 l0_2.length c0_2, .slice A0_3 l0_3.length c0_3], .int .i64 a1] w fun e w' => ∃ v0_ : Value, e = .returned (v0_) ∧ Kd.R (Kd.int .i64) 3 w' w.heap.size (fun _ => True) v0_ r ∧ Below w.heap.size w w' := by
 have hu30 := Try.underlying30
 have HR0_2 := Aside0.mk hr0_2
 have HC0_2 := Aside0.mk hc0_2
 clear hr0_2 hc0_2
 have HR0_3 := Aside0.mk hr0_3
 have HC0_3 := Aside0.mk hc0_3
 clear hr0_3 hc0_3
 have HB := Aside0.mk (Below.refl w.heap.size w)
 have H : ((txn_keys.f k a0_0 a0_1 l0_2 l0_3).bind fun bt2 => (txn_Reads.l0 k a1 ([] : List Int) bt2.1 (bt2.1.length : Int) 0)) = some r := h
 clear h
 replace H := Option.bind_eq_some_iff.mp H
 obtain ⟨⟨t2, t5⟩, A30, H⟩ := H
 (try dsimp only at H)
 have A3 := Aside0.mk A30
 clear A30
 have H' := Aside0.mk H
 clear H
 go_enter Try.func24, Try.ntmps24
 go_wp2_with (first | ((with_reducible refine gate_dst (N := 2) rfl ?_); refine box_event ?hg (N := 2) ?hd (cs := #[.int .i64 a0_0, .int .i64 a0_1, .slice A0_2 l0_2.length c0_2, .slice A0_3 l0_3.length c0_3]) (t := 30) ?hr ?_; (case hd => rfl); (case hg => rfl); (case hr => first | (go_simp; done) | (go_simp; rfl)); intro gb1 hg w4 hbox hb; have n0_ := Aside0.mk (below_step (by repeat (with_reducible first | exact HB.out | apply ba_ | apply bn_ | apply bd_)) hb); have n1_ := Aside0.mk (hbox); have n2_ := Aside0.mk ((by rw [hg]; exact (below_size (by repeat (with_reducible first | exact HB.out | apply ba_ | apply bn_ | apply bd_))) : w.heap.size ≤ gb1)); have n3_ := Aside0.mk ((by rw [hg]; exact (below_size (by repeat (with_reducible first | exact HB.out | apply ba_ | apply bn_ | apply bd_))) : w.heap.size ≤ gb1)); clear HB; have HB := n0_; have BK1 := n1_; have GW1 := n2_; have GE1 := n3_; clear n0_ n1_ n2_ n3_; clear hb hbox hg; have hcz5_0 : w4.cell? ⟨gb1, 0, none⟩ = some (.int .i64 a0_0) := (blk_cell BK1.out 0).trans rfl; have hcz5_1 : w4.cell? ⟨gb1, 1, none⟩ = some (.int .i64 a0_1) := (blk_cell BK1.out 1).trans rfl; have hcz5_2 : w4.cell? ⟨gb1, 2, none⟩ = some (.slice A0_2 l0_2.length c0_2) := (blk_cell BK1.out 2).trans rfl; have hcz5_3 : w4.cell? ⟨gb1, 3, none⟩ = some (.slice A0_3 l0_3.length c0_3) := (blk_cell BK1.out 3).trans rfl; have hfz5_0 := blk_frozen BK1.out 0; have hfz5_1 := blk_frozen BK1.out 1; have hfz5_2 := blk_frozen BK1.out 2; have hfz5_3 := blk_frozen BK1.out 3) | ((with_reducible refine gate_callee (f := 64) rfl ?_); refine goesM_ (some 11) Try.func64 #[.agg #[.int .i64 a0_0, .int .i64 a0_1, .slice A0_2 l0_2.length c0_2, .slice A0_3 l0_3.length c0_3]] ?_; (with_reducible refine (txn_keys.calls k a0_0 a0_1 _ _ l0_2 _ _ l0_3 t2 t5 _ ?side1 ?side2 ?side3 ?side4 A3.out).mono ?_); (case side1 => repeat (first | exact (Kd.C_below HR0_2.out HB.out) | (with_reducible refine ca_ ?_ _) | (with_reducible refine cn_ ?_ _) | (with_reducible refine cd_ ?_))); (case side2 => exact HC0_2.out); (case side3 => repeat (first | exact (Kd.C_below HR0_3.out HB.out) | (with_reducible refine ca_ ?_ _) | (with_reducible refine cn_ ?_ _) | (with_reducible refine cd_ ?_))); (case side4 => exact HC0_3.out); rintro e w6 ⟨v3, v6, rfl, ho0, ho1, hb⟩; refine ⟨_, rfl, ?_⟩; have n0_ := Aside0.mk (Kd.R_lower ho0 (below_size (by repeat (with_reducible first | exact HB.out | apply ba_ | apply bn_ | apply bd_ | refine bs_ ?_ GE1.out)))); have n1_ := Aside0.mk (Kd.R_lower ho1 (below_size (by repeat (with_reducible first | exact HB.out | apply ba_ | apply bn_ | apply bd_ | refine bs_ ?_ GE1.out)))); have n2_ := Aside0.mk (blk_below (g := gb1) (o := .cells #[.int .i64 a0_0, .int .i64 a0_1, .slice A0_2 l0_2.length c0_2, .slice A0_3 l0_3.length c0_3] 30 (0, 0)) (by (with_reducible repeat (first | refine kn_ ?_ _ | refine kd_ ?_ | refine ka_ ?_ _)); exact BK1.out) hb); have n3_ := Aside0.mk (below_step (by repeat (with_reducible first | exact HB.out | apply ba_ | apply bn_ | apply bd_ | refine bs_ ?_ GE1.out)) hb); clear BK1; clear HB; have HO4 := n0_; have HO7 := n1_; have BK1 := n2_; have HB := n3_; clear n0_ n1_ n2_ n3_; clear hb ho0 ho1; obtain ⟨Ao7, co7, eo7⟩ := Kd.R_slice HO4.out; subst eo7))
 go_loopg [4, 16] k (fun kq v4 v16 w' => ∃ (x4_1 : List Int) (x16_1 : Int), v16 = .int .i64 x16_1 ∧ Aside0 (txn_Reads.l0 kq a1 x4_1 t2 (t2.length : Int) x16_1 = some r) ∧ Aside0 (kq ≤ k) ∧ Aside0 (Kd.R (Kd.int .i64) 3 w' w.heap.size (fun _ => True) v4 x4_1) ∧ Aside0 (Kd.R Kd.string 9 w' w.heap.size (fun _ => True) (.slice Ao7 t2.length co7) t2) ∧ Aside0 (w'.heap[gb1]? = some (.cells #[.int .i64 a0_0, .int .i64 a0_1, (.slice A0_2 l0_2.length c0_2), (.slice A0_3 l0_3.length c0_3)] 30 (0, 0))) ∧ Aside0 (Below w.heap.size w w'))
 case atStart => exact ⟨(([] : List Int)), (0), (by first | rfl | (simp; done) | (simp [*]; done)), H', ⟨Nat.le_refl _⟩, ⟨by first | exact Kd.R_nil _ _ _ _ _ | exact Kd.N_nil _ _ _ _ _ | exact Kd.V_nil _ _ _ _ _ | exact Kd.Q_nil _ _ _ _ _ | exact Kd.S_nil _ _ _ _ _⟩, ⟨by (with_reducible repeat (first | apply ra_ | apply rn_ | apply rd_)); exact Kd.R_mono HO4.out (fun _ hk => trivial)⟩, ⟨by (with_reducible repeat (first | refine kn_ ?_ _ | refine kd_ ?_ | refine ka_ ?_ _)); exact BK1.out⟩, ⟨by repeat (with_reducible first | exact HB.out | apply ba_ | apply bn_ | apply bd_ | refine bs_ ?_ GE1.out)⟩⟩
 case round =>
  clear H'
  try clear c2
  try clear p2
  try clear c6
  try clear hcz5_0
  try clear hcz5_1
  try clear hcz5_2
  try clear hcz5_3
  try clear hfz5_0
  try clear hfz5_1
  try clear hfz5_2
  try clear hfz5_3
  obtain ⟨x4_1, x16_1, rfl, HA, HK1, HO_4, HO_14, BK1, HB⟩ := hrel
  cases gk with
  | zero => exact absurd HA.out (by simp [txn_Reads.l0])
  | succ k1 =>
   have H := HA.out
   clear HA
   simp only [txn_Reads.l0] at H
   by_cases c8 : x16_1 < (t2.length : Int)
   ·rw [if_pos c8] at H
    have c8b0 : decide (x16_1 < (t2.length : Int)) = true := decide_eq_true c8
    clear c8
    by_cases c9 : 0 ≤ x16_1
    ·rw [if_pos c9] at H
     have c9b0 : decide (0 ≤ x16_1) = true := decide_eq_true c9
     clear c9
     by_cases c10 : x16_1 < (t2.length : Int)
     ·rw [if_pos c10] at H
      have c10b0 : decide (x16_1 < (t2.length : Int)) = true := decide_eq_true c10
      clear c10
      replace H := Option.bind_eq_some_iff.mp H
      obtain ⟨t9, A110, H⟩ := H
      (try dsimp only at H)
      have A11 := Aside0.mk A110
      clear A110
      by_cases c12 : x4_1.length < 17592186044416
      ·rw [if_pos c12] at H
       have LMc12 := Aside0.mk c12
       clear c12
       obtain ⟨y10, hy10⟩ : ∃ y_ : List Int, y_ = (x4_1 ++ [t9]) := ⟨_, rfl⟩
       replace H : (txn_Reads.l0 k1 a1 y10 t2 (t2.length : Int) (wrap64 (x16_1 + 1))) = some r := by first | (rw [hy10]; with_reducible exact H) | (have H2_ := (Option.bind_some _ _).symm.trans H; rw [hy10]; with_reducible exact H2_) | (have H2_ := (Option.bind_some _ _).symm.trans H; with_reducible exact H2_) | with_reducible exact H | (rw [hy10]; exact H) | exact H
       have Ny10 := Aside0.mk hy10
       clear hy10
       have H' := Aside0.mk H
       clear H
       have p8 : 0 ≤ (x16_1 : Int) := of_decide_eq_true (by first | (with_reducible assumption) | assumption)
       have q8 : x16_1 < (t2.length : Int) := of_decide_eq_true (by first | (with_reducible assumption) | assumption)
       obtain ⟨ad8, e8, hx8_0⟩ := Kd.at_string (Kd.R_reads' HO_14.out).2.2 x16_1 p8 q8
       cases e8
       replace p8 := eq_true p8
       replace q8 := eq_true q8
       go_wp2_with (first | ((with_reducible refine gate_callee (f := 81) rfl ?_); refine goesM_ (some 23) Try.func81 #[.string (rdOf ByteArray.empty t2 x16_1), .int .i64 a1] ?_; (with_reducible refine (key_Shard.calls k1 (rdOf ByteArray.empty t2 x16_1) a1 t9 _ A11.out).mono ?_); rintro e w' ⟨rfl, ⟨nd, rfl⟩⟩; refine ⟨_, rfl, ?_⟩) | ((with_reducible refine gate_builtin (b := .append) (xs := #[.tmp 20, .tmp 24]) rfl ?_); at_builtin; refine Kd.R_append (Kd.int .i64) (w0 := w) w.heap.size rfl (.tmp 20) (.tmp 24) 41 3 (.int .i64 0) 8 rfl Try.underlying41 info3 rfl (by decide) (by omega) u4 x4_1 t9 [.int .i64 t9] (fun _ => True) (fun _ => False) rfl rfl ?aP (fun _ hk => hk.elim) ?aF ?aO ?aB ?aS ?aL ?_; (case aP => exact rfl); (case aB => exact (by repeat (with_reducible first | exact HB.out | apply ba_ | apply bn_ | apply bd_ | refine bs_ ?_ GE1.out))); (case aF => exact (fun _ _ => trivial)); (case aO => exact (by (with_reducible repeat (first | apply ra_ | apply rn_ | apply rd_)); exact HO_4.out)); (case aS => exact (below_size (by repeat (with_reducible first | exact HB.out | apply ba_ | apply bn_ | apply bd_ | refine bs_ ?_ GE1.out)))); (case aL => have := LMc12.out; omega); intro v11 w13 ho hb hg hat; rw [← Ny10.out] at ho; have n0_ := Aside0.mk (Kd.R_over' (by (with_reducible repeat (first | apply ra_ | apply rn_ | apply rd_)); exact HO_14.out) (Kd.R_typed (by (with_reducible repeat (first | apply ra_ | apply rn_ | apply rd_)); exact HO_4.out)) (by decide) hg); have n1_ := Aside0.mk (blk_grown (g := gb1) (o := .cells #[.int .i64 a0_0, .int .i64 a0_1, .slice A0_2 l0_2.length c0_2, .slice A0_3 l0_3.length c0_3] 30 (0, 0)) (by (with_reducible repeat (first | refine kn_ ?_ _ | refine kd_ ?_ | refine ka_ ?_ _)); exact BK1.out) hg (Kd.R_ne HO_4.out BK1.out (by decide))); have n2_ := Aside0.mk (hb); have n3_ := Aside0.mk (ho); clear HO_14; clear BK1; clear HB; clear HO_4; have HO_14 := n0_; have BK1 := n1_; have HB := n2_; have HO12 := n3_; clear n0_ n1_ n2_ n3_; clear ho hb hg hat))
       go_roundg k1
       case measure => have := HK1.out; omega
       case rel => exact ⟨(y10), (wrap64 (x16_1 + 1)), (by first | rfl | (simp; done) | (simp [*]; done)), H', ⟨by have := HK1.out; omega⟩, ⟨by (with_reducible repeat (first | apply ra_ | apply rn_ | apply rd_)); exact HO12.out⟩, ⟨by (with_reducible repeat (first | apply ra_ | apply rn_ | apply rd_)); exact HO_14.out⟩, ⟨by (with_reducible repeat (first | refine kn_ ?_ _ | refine kd_ ?_ | refine ka_ ?_ _)); exact BK1.out⟩, ⟨by repeat (with_reducible first | exact HB.out | apply ba_ | apply bn_ | apply bd_ | refine bs_ ?_ GE1.out)⟩⟩
      ·rw [if_neg c12] at H
       exact absurd H (by simp)
     ·rw [if_neg c10] at H
      exact absurd H (by simp)
    ·rw [if_neg c9] at H
     exact absurd H (by simp)
   ·rw [if_neg c8] at H
    have c8b0 : decide (x16_1 < (t2.length : Int)) = false := decide_eq_false c8
    clear c8
    replace H := Option.bind_eq_some_iff.mp H
    obtain ⟨t13, A140, H⟩ := H
    (try dsimp only at H)
    have A14 := Aside0.mk A140
    clear A140
    replace H := Option.bind_eq_some_iff.mp H
    obtain ⟨t14, A150, H⟩ := H
    (try dsimp only at H)
    have A15 := Aside0.mk A150
    clear A150
    obtain rfl := Option.some.inj H
    obtain ⟨Ao16, co16, eo16⟩ := Kd.R_slice HO_4.out
    subst eo16
    go_wp2_with (first | ((with_reducible refine gate_callee (f := 82) rfl ?_); refine goesM_ (some 28) Try.func82 #[.slice Ao16 x4_1.length co16] ?_; (with_reducible refine (slices_Sort_Lint_int.calls (fun k_ => some k_ = (.slice Ao16 x4_1.length co16 : Value).ownBlock) (.slice Ao16 x4_1.length co16) x4_1 t13 w _ ?side1 ?side2 A14.out).mono ?_); (case side1 => repeat (with_reducible first | exact HB.out | apply ba_ | apply bn_ | apply bd_ | refine bs_ ?_ GE1.out)); (case side2 => exact Kd.R_tight rfl HO_4.out); rintro e w17 ⟨rfl, hy0, hb, hkp⟩; refine ⟨_, rfl, ?_⟩; have n0_ := Aside0.mk (Kd.R_reok rfl hy0 (fun k_ e_ => HO_4.out.1 k_ e_)); have n1_ := Aside0.mk (Kd.R_mono (ok' := fun k_ => True) (Kd.R_keptB ((Kd.R_apart' HO_14.out (Kd.R_typed HO_4.out) (by decide))) hkp (fun k_ hk_ hs_ => (hk_.2) hs_)) (fun k_ hk_ => trivial)); have n2_ := Aside0.mk (blk_kept (by (with_reducible repeat (first | refine kn_ ?_ _ | refine kd_ ?_ | refine ka_ ?_ _)); exact BK1.out) hkp (fun hs_ => (fun e_ => (Kd.R_ne HO_4.out BK1.out (by decide)) e_) hs_)); have n3_ := Aside0.mk (hb); clear HO_4; clear HO_14; clear BK1; clear HB; have HO_4 := n0_; have HO_14 := n1_; have BK1 := n2_; have HB := n3_; clear n0_ n1_ n2_ n3_; clear hb hkp hy0) | ((with_reducible refine gate_callee (f := 83) rfl ?_); refine goesM_ (some 30) Try.func83 #[.slice Ao16 x4_1.length co16] ?_; (with_reducible refine (slices_Compact_Lint_int.calls (fun k_ => some k_ = (.slice Ao16 x4_1.length co16 : Value).ownBlock) (.slice Ao16 x4_1.length co16) t13 t14 w _ ?side1 ?side2 A15.out).mono ?_); (case side1 => repeat (with_reducible first | exact HB.out | apply ba_ | apply bn_ | apply bd_ | refine bs_ ?_ GE1.out)); (case side2 => exact Kd.R_tight rfl HO_4.out); rintro e w18 ⟨v15, rfl, ho0, hb, hkp⟩; refine ⟨_, rfl, ?_⟩; have n0_ := Aside0.mk (Kd.R_mono (ok' := fun k_ => True) (Kd.R_keptB ((Kd.R_apart' HO_14.out (Kd.R_typed HO_4.out) (by decide))) hkp (fun k_ hk_ hs_ => (hk_.2) hs_)) (fun k_ hk_ => trivial)); have n1_ := Aside0.mk (blk_kept (by (with_reducible repeat (first | refine kn_ ?_ _ | refine kd_ ?_ | refine ka_ ?_ _)); exact BK1.out) hkp (fun hs_ => (fun e_ => (Kd.R_ne HO_4.out BK1.out (by decide)) e_) hs_)); have n2_ := Aside0.mk (Kd.R_mono (ok' := fun k_ => True) ho0 (fun k_ hk_ => trivial)); have n3_ := Aside0.mk (hb); clear HO_14; clear BK1; clear HB; clear HO_4; have HO_14 := n0_; have BK1 := n1_; have HO16 := n2_; have HB := n3_; clear n0_ n1_ n2_ n3_; clear hb hkp ho0))
    go_ret
    exact ⟨_, by first | rfl | (simp [errW_none, errW_some] <;> rfl) | (simp [*, errW_none, errW_some] <;> rfl), by (with_reducible repeat (first | apply ra_ | apply rn_ | apply rd_)); exact HO16.out, by repeat (with_reducible first | exact HB.out | apply ba_ | apply bn_ | apply bd_ | refine bs_ ?_ GE1.out)⟩
def bits_said.f (l0 : List Int) (a1 : Int) : Option (Int) := if a1 < (l0.length : Int) then (if 0 ≤ a1 then (if (rd l0 a1) = 1 then (some (rd l0 a1)) else (if (rd l0 a1) = 2 then (some (rd l0 a1)) else (some 0))) else (none)) else (some 0)
set_option maxHeartbeats 8000000 in
set_option maxRecDepth 100000 in
theorem bits_said.calls (A0 : Option Addr) (c0 : Nat) (l0 : List Int) (a1 : Int) (r : Int) (w : World) (hr0 : Kd.C (Kd.int .i64) w A0 l0.length l0) (hc0 : l0.length ≤ c0) (h : bits_said.f l0 a1 = some r) :
  Calls Try.prog 89 #[.slice A0 l0.length c0, .int .i64 a1] w fun e w' => e = .returned (.int .i64 r) ∧ Drawn0 w w' := by
 have HR0 := Aside0.mk hr0
 have HC0 := Aside0.mk hc0
 clear hr0 hc0
 have H : (if a1 < (l0.length : Int) then (if 0 ≤ a1 then (if (rd l0 a1) = 1 then (some (rd l0 a1)) else (if (rd l0 a1) = 2 then (some (rd l0 a1)) else (some 0))) else (none)) else (some 0)) = some r := h
 clear h
 by_cases c3 : a1 < (l0.length : Int)
 ·rw [if_pos c3] at H
  have c3b0 : decide (a1 < (l0.length : Int)) = true := decide_eq_true c3
  clear c3
  by_cases c4 : 0 ≤ a1
  ·rw [if_pos c4] at H
   have c4b0 : decide (0 ≤ a1) = true := decide_eq_true c4
   clear c4
   by_cases c5 : (rd l0 a1) = 1
   ·rw [if_pos c5] at H
    have c5b0 : ((rd l0 a1) == 1) = true := beq_iff_eq.mpr c5
    have c5b1 : ((rd l0 a1) != 1) = false := bne_eq_false_iff_eq.mpr c5
    clear c5
    obtain rfl := Option.some.inj H
    have p1 : 0 ≤ (a1 : Int) := of_decide_eq_true (by first | (with_reducible assumption) | assumption)
    have q1 : a1 < (l0.length : Int) := of_decide_eq_true (by first | (with_reducible assumption) | assumption)
    obtain ⟨ad1, e1, hx1_0⟩ := Kd.at_int HR0.out a1 p1 q1
    cases e1
    replace p1 := eq_true p1
    replace q1 := eq_true q1
    have p2 : 0 ≤ (a1 : Int) := of_decide_eq_true (by first | (with_reducible assumption) | assumption)
    have q2 : a1 < (l0.length : Int) := of_decide_eq_true (by first | (with_reducible assumption) | assumption)
    obtain ⟨ad2, e2, hx2_0⟩ := Kd.at_int HR0.out a1 p2 q2
    obtain rfl : ad1 = ad2 := (by injection e2)
    replace p2 := eq_true p2
    replace q2 := eq_true q2
    go_enter Try.func89, Try.ntmps89
    go_wp2
    go_ret
    exact ⟨by first | rfl | (simp; done) | (simp [*]; done), by repeat (first | exact Drawn0.refl _ | apply Drawn0.step)⟩
   ·rw [if_neg c5] at H
    have c5b0 : ((rd l0 a1) == 1) = false := beq_eq_false_iff_ne.mpr c5
    have c5b1 : ((rd l0 a1) != 1) = true := bne_iff_ne.mpr c5
    by_cases c6 : (rd l0 a1) = 2
    ·rw [if_pos c6] at H
     have c6b0 : ((rd l0 a1) == 2) = true := beq_iff_eq.mpr c6
     have c6b1 : ((rd l0 a1) != 2) = false := bne_eq_false_iff_eq.mpr c6
     clear c6
     obtain rfl := Option.some.inj H
     have p1 : 0 ≤ (a1 : Int) := of_decide_eq_true (by first | (with_reducible assumption) | assumption)
     have q1 : a1 < (l0.length : Int) := of_decide_eq_true (by first | (with_reducible assumption) | assumption)
     obtain ⟨ad1, e1, hx1_0⟩ := Kd.at_int HR0.out a1 p1 q1
     cases e1
     replace p1 := eq_true p1
     replace q1 := eq_true q1
     have p3 : 0 ≤ (a1 : Int) := of_decide_eq_true (by first | (with_reducible assumption) | assumption)
     have q3 : a1 < (l0.length : Int) := of_decide_eq_true (by first | (with_reducible assumption) | assumption)
     obtain ⟨ad3, e3, hx3_0⟩ := Kd.at_int HR0.out a1 p3 q3
     obtain rfl : ad1 = ad3 := (by injection e3)
     replace p3 := eq_true p3
     replace q3 := eq_true q3
     have p4 : 0 ≤ (a1 : Int) := of_decide_eq_true (by first | (with_reducible assumption) | assumption)
     have q4 : a1 < (l0.length : Int) := of_decide_eq_true (by first | (with_reducible assumption) | assumption)
     obtain ⟨ad4, e4, hx4_0⟩ := Kd.at_int HR0.out a1 p4 q4
     obtain rfl : ad1 = ad4 := (by injection e4)
     replace p4 := eq_true p4
     replace q4 := eq_true q4
     go_enter Try.func89, Try.ntmps89
     go_wp2
     go_ret
     exact ⟨by first | rfl | (simp; done) | (simp [*]; done), by repeat (first | exact Drawn0.refl _ | apply Drawn0.step)⟩
    ·rw [if_neg c6] at H
     have c6b0 : ((rd l0 a1) == 2) = false := beq_eq_false_iff_ne.mpr c6
     have c6b1 : ((rd l0 a1) != 2) = true := bne_iff_ne.mpr c6
     obtain rfl := Option.some.inj H
     have p1 : 0 ≤ (a1 : Int) := of_decide_eq_true (by first | (with_reducible assumption) | assumption)
     have q1 : a1 < (l0.length : Int) := of_decide_eq_true (by first | (with_reducible assumption) | assumption)
     obtain ⟨ad1, e1, hx1_0⟩ := Kd.at_int HR0.out a1 p1 q1
     cases e1
     replace p1 := eq_true p1
     replace q1 := eq_true q1
     have p3 : 0 ≤ (a1 : Int) := of_decide_eq_true (by first | (with_reducible assumption) | assumption)
     have q3 : a1 < (l0.length : Int) := of_decide_eq_true (by first | (with_reducible assumption) | assumption)
     obtain ⟨ad3, e3, hx3_0⟩ := Kd.at_int HR0.out a1 p3 q3
     obtain rfl : ad1 = ad3 := (by injection e3)
     replace p3 := eq_true p3
     replace q3 := eq_true q3
     go_enter Try.func89, Try.ntmps89
     go_wp2
     go_ret
     exact ⟨by first | rfl | (simp; done) | (simp [*]; done), by repeat (first | exact Drawn0.refl _ | apply Drawn0.step)⟩
  ·rw [if_neg c4] at H
   exact absurd H (by simp)
 ·rw [if_neg c3] at H
  have c3b0 : decide (a1 < (l0.length : Int)) = false := decide_eq_false c3
  clear c3
  obtain rfl := Option.some.inj H
  go_enter Try.func89, Try.ntmps89
  go_wp2
  go_ret
  exact ⟨by first | rfl | (simp; done) | (simp [*]; done), by repeat (first | exact Drawn0.refl _ | apply Drawn0.step)⟩
def bits_Verdict.l0 : Nat → List Int → Int → List Int → Int → Int → Option (Int)
 | 0, _, _, _, _, _ => none
 | k + 1, x2, x7, x12, x13, x14 => if x14 < x13 then (if 0 ≤ x14 then (if x14 < (x12.length : Int) then ((bits_said.f x2 (rd x12 x14)).bind fun t6 => (if t6 = 2 then (some 2) else (if t6 = 0 then (bits_Verdict.l0 k x2 0 x12 x13 (wrap64 (x14 + 1))) else (bits_Verdict.l0 k x2 x7 x12 x13 (wrap64 (x14 + 1)))))) else (none)) else (none)) else (some x7)
def bits_Verdict.f (k : Nat) (a0_0 : Int) (a0_1 : Int) (l0_2 : List (S24)) (l0_3 : List (S27)) (a1 : Int) (l2 : List Int) : Option (Int) := (txn_Reads.f k a0_0 a0_1 l0_2 l0_3 a1).bind fun t2 => (bits_Verdict.l0 k l2 1 t2 (t2.length : Int) 0)
set_option maxHeartbeats 8000000 in
set_option maxRecDepth 100000 in
theorem bits_Verdict.calls (k : Nat) (a0_0 : Int) (a0_1 : Int) (A0_2 : Option Addr) (c0_2 : Nat) (l0_2 : List (S24)) (A0_3 : Option Addr) (c0_3 : Nat) (l0_3 : List (S27)) (a1 : Int) (A2 : Option Addr) (c2 : Nat) (l2 : List Int) (r : Int) (w : World) (hr0_2 : Kd.C k24 w A0_2 l0_2.length l0_2) (hc0_2 : l0_2.length ≤ c0_2) (hr0_3 : Kd.C k27 w A0_3 l0_3.length l0_3) (hc0_3 : l0_3.length ≤ c0_3) (hr2 : Kd.C (Kd.int .i64) w A2 l2.length l2) (hc2 : l2.length ≤ c2) (h : bits_Verdict.f k a0_0 a0_1 l0_2 l0_3 a1 l2 = some r) :
  Calls Try.prog 34 #[.agg #[.int .i64 a0_0, .int .i64 a0_1, .slice A0_2 l0_2.length c0_2, .slice A0_3 l0_3.length c0_3], .int .i64 a1, .slice A2 l2.length c2] w fun e w' => e = .returned (.int .i64 r) ∧ Below w.heap.size w w' := by
 have hu30 := Try.underlying30
 have HR0_2 := Aside0.mk hr0_2
 have HC0_2 := Aside0.mk hc0_2
 clear hr0_2 hc0_2
 have HR0_3 := Aside0.mk hr0_3
 have HC0_3 := Aside0.mk hc0_3
 clear hr0_3 hc0_3
 have HR2 := Aside0.mk hr2
 have HC2 := Aside0.mk hc2
 clear hr2 hc2
 have HB := Aside0.mk (Below.refl w.heap.size w)
 have H : ((txn_Reads.f k a0_0 a0_1 l0_2 l0_3 a1).bind fun t2 => (bits_Verdict.l0 k l2 1 t2 (t2.length : Int) 0)) = some r := h
 clear h
 replace H := Option.bind_eq_some_iff.mp H
 obtain ⟨t2, A40, H⟩ := H
 (try dsimp only at H)
 have A4 := Aside0.mk A40
 clear A40
 have H' := Aside0.mk H
 clear H
 go_enter Try.func34, Try.ntmps34
 go_wp2_with (first | ((with_reducible refine gate_dst (N := 3) rfl ?_); refine box_event ?hg (N := 3) ?hd (cs := #[.int .i64 a0_0, .int .i64 a0_1, .slice A0_2 l0_2.length c0_2, .slice A0_3 l0_3.length c0_3]) (t := 30) ?hr ?_; (case hd => rfl); (case hg => rfl); (case hr => first | (go_simp; done) | (go_simp; rfl)); intro gb1 hg w5 hbox hb; have n0_ := Aside0.mk (below_step (by repeat (with_reducible first | exact HB.out | apply ba_ | apply bn_ | apply bd_)) hb); have n1_ := Aside0.mk (hbox); have n2_ := Aside0.mk ((by rw [hg]; exact (below_size (by repeat (with_reducible first | exact HB.out | apply ba_ | apply bn_ | apply bd_))) : w.heap.size ≤ gb1)); have n3_ := Aside0.mk ((by rw [hg]; exact (below_size (by repeat (with_reducible first | exact HB.out | apply ba_ | apply bn_ | apply bd_))) : w.heap.size ≤ gb1)); clear HB; have HB := n0_; have BK1 := n1_; have GW1 := n2_; have GE1 := n3_; clear n0_ n1_ n2_ n3_; clear hb hbox hg; have hcz6_0 : w5.cell? ⟨gb1, 0, none⟩ = some (.int .i64 a0_0) := (blk_cell BK1.out 0).trans rfl; have hcz6_1 : w5.cell? ⟨gb1, 1, none⟩ = some (.int .i64 a0_1) := (blk_cell BK1.out 1).trans rfl; have hcz6_2 : w5.cell? ⟨gb1, 2, none⟩ = some (.slice A0_2 l0_2.length c0_2) := (blk_cell BK1.out 2).trans rfl; have hcz6_3 : w5.cell? ⟨gb1, 3, none⟩ = some (.slice A0_3 l0_3.length c0_3) := (blk_cell BK1.out 3).trans rfl; have hfz6_0 := blk_frozen BK1.out 0; have hfz6_1 := blk_frozen BK1.out 1; have hfz6_2 := blk_frozen BK1.out 2; have hfz6_3 := blk_frozen BK1.out 3) | ((with_reducible refine gate_callee (f := 24) rfl ?_); refine goesM_ (some 12) Try.func24 #[.agg #[.int .i64 a0_0, .int .i64 a0_1, .slice A0_2 l0_2.length c0_2, .slice A0_3 l0_3.length c0_3], .int .i64 a1] ?_; (with_reducible refine (txn_Reads.calls k a0_0 a0_1 _ _ l0_2 _ _ l0_3 a1 t2 _ ?side1 ?side2 ?side3 ?side4 A4.out).mono ?_); (case side1 => repeat (first | exact (Kd.C_below HR0_2.out HB.out) | (with_reducible refine ca_ ?_ _) | (with_reducible refine cn_ ?_ _) | (with_reducible refine cd_ ?_))); (case side2 => exact HC0_2.out); (case side3 => repeat (first | exact (Kd.C_below HR0_3.out HB.out) | (with_reducible refine ca_ ?_ _) | (with_reducible refine cn_ ?_ _) | (with_reducible refine cd_ ?_))); (case side4 => exact HC0_3.out); rintro e w7 ⟨v3, rfl, ho0, hb⟩; refine ⟨_, rfl, ?_⟩; have n0_ := Aside0.mk (Kd.R_lower ho0 (below_size (by repeat (with_reducible first | exact HB.out | apply ba_ | apply bn_ | apply bd_ | refine bs_ ?_ GE1.out)))); have n1_ := Aside0.mk (blk_below (g := gb1) (o := .cells #[.int .i64 a0_0, .int .i64 a0_1, .slice A0_2 l0_2.length c0_2, .slice A0_3 l0_3.length c0_3] 30 (0, 0)) (by (with_reducible repeat (first | refine kn_ ?_ _ | refine kd_ ?_ | refine ka_ ?_ _)); exact BK1.out) hb); have n2_ := Aside0.mk (below_step (by repeat (with_reducible first | exact HB.out | apply ba_ | apply bn_ | apply bd_ | refine bs_ ?_ GE1.out)) hb); clear BK1; clear HB; have HO4 := n0_; have BK1 := n1_; have HB := n2_; clear n0_ n1_ n2_; clear hb ho0; obtain ⟨Ao8, co8, eo8⟩ := Kd.R_slice HO4.out; subst eo8))
 go_loopg [7, 14] k (fun kq v7 v14 w' => ∃ (x7_1 : Int) (x14_1 : Int), v7 = .int .i64 x7_1 ∧ v14 = .int .i64 x14_1 ∧ Aside0 (bits_Verdict.l0 kq l2 x7_1 t2 (t2.length : Int) x14_1 = some r) ∧ Aside0 (kq ≤ k) ∧ Aside0 (Kd.R (Kd.int .i64) 3 w' w.heap.size (fun _ => True) (.slice Ao8 t2.length co8) t2) ∧ Aside0 (w'.heap[gb1]? = some (.cells #[.int .i64 a0_0, .int .i64 a0_1, (.slice A0_2 l0_2.length c0_2), (.slice A0_3 l0_3.length c0_3)] 30 (0, 0))) ∧ Aside0 (Below w.heap.size w w'))
 case atStart => exact ⟨(1), (0), (by first | rfl | (simp; done) | (simp [*]; done)), (by first | rfl | (simp; done) | (simp [*]; done)), H', ⟨Nat.le_refl _⟩, ⟨by (with_reducible repeat (first | apply ra_ | apply rn_ | apply rd_)); exact HO4.out⟩, ⟨by (with_reducible repeat (first | refine kn_ ?_ _ | refine kd_ ?_ | refine ka_ ?_ _)); exact BK1.out⟩, ⟨by repeat (with_reducible first | exact HB.out | apply ba_ | apply bn_ | apply bd_ | refine bs_ ?_ GE1.out)⟩⟩
 case round =>
  clear H'
  try clear c2
  try clear p2
  try clear c3
  try clear hcz6_0
  try clear hcz6_1
  try clear hcz6_2
  try clear hcz6_3
  try clear hfz6_0
  try clear hfz6_1
  try clear hfz6_2
  try clear hfz6_3
  obtain ⟨x7_1, x14_1, rfl, rfl, HA, HK1, HO_12, BK1, HB⟩ := hrel
  cases gk with
  | zero => exact absurd HA.out (by simp [bits_Verdict.l0])
  | succ k1 =>
   have H := HA.out
   clear HA
   simp only [bits_Verdict.l0] at H
   by_cases c9 : x14_1 < (t2.length : Int)
   ·rw [if_pos c9] at H
    have c9b0 : decide (x14_1 < (t2.length : Int)) = true := decide_eq_true c9
    clear c9
    by_cases c10 : 0 ≤ x14_1
    ·rw [if_pos c10] at H
     have c10b0 : decide (0 ≤ x14_1) = true := decide_eq_true c10
     clear c10
     by_cases c11 : x14_1 < (t2.length : Int)
     ·rw [if_pos c11] at H
      have c11b0 : decide (x14_1 < (t2.length : Int)) = true := decide_eq_true c11
      clear c11
      replace H := Option.bind_eq_some_iff.mp H
      obtain ⟨t6, A120, H⟩ := H
      (try dsimp only at H)
      have A12 := Aside0.mk A120
      clear A120
      by_cases c13 : t6 = 2
      ·rw [if_pos c13] at H
       have c13b0 : (t6 == 2) = true := beq_iff_eq.mpr c13
       have c13b1 : (t6 != 2) = false := bne_eq_false_iff_eq.mpr c13
       clear c13
       obtain rfl := Option.some.inj H
       have p5 : 0 ≤ (x14_1 : Int) := of_decide_eq_true (by first | (with_reducible assumption) | assumption)
       have q5 : x14_1 < (t2.length : Int) := of_decide_eq_true (by first | (with_reducible assumption) | assumption)
       obtain ⟨ad5, e5, hx5_0⟩ := Kd.at_int (Kd.R_reads' HO_12.out).2.2 x14_1 p5 q5
       cases e5
       replace p5 := eq_true p5
       replace q5 := eq_true q5
       go_wp2_with (first | ((with_reducible refine gate_callee (f := 89) rfl ?_); refine goesM_ (some 20) Try.func89 #[.slice A2 l2.length c2, .int .i64 (rd t2 x14_1)] ?_; (with_reducible refine (bits_said.calls _ _ l2 (rd t2 x14_1) t6 _ ?side1 ?side2 A12.out).mono ?_); (case side1 => repeat (first | exact (Kd.C_below HR2.out HB.out) | (with_reducible refine ca_ ?_ _) | (with_reducible refine cn_ ?_ _) | (with_reducible refine cd_ ?_))); (case side2 => exact HC2.out); rintro e w' ⟨rfl, ⟨nd, rfl⟩⟩; refine ⟨_, rfl, ?_⟩))
       go_ret
       exact ⟨by first | rfl | (simp [errW_none, errW_some] <;> rfl) | (simp [*, errW_none, errW_some] <;> rfl), by repeat (with_reducible first | exact HB.out | apply ba_ | apply bn_ | apply bd_ | refine bs_ ?_ GE1.out)⟩
      ·rw [if_neg c13] at H
       have c13b0 : (t6 == 2) = false := beq_eq_false_iff_ne.mpr c13
       have c13b1 : (t6 != 2) = true := bne_iff_ne.mpr c13
       by_cases c14 : t6 = 0
       ·rw [if_pos c14] at H
        have c14b0 : (t6 == 0) = true := beq_iff_eq.mpr c14
        have c14b1 : (t6 != 0) = false := bne_eq_false_iff_eq.mpr c14
        clear c14
        have H' := Aside0.mk H
        clear H
        have p5 : 0 ≤ (x14_1 : Int) := of_decide_eq_true (by first | (with_reducible assumption) | assumption)
        have q5 : x14_1 < (t2.length : Int) := of_decide_eq_true (by first | (with_reducible assumption) | assumption)
        obtain ⟨ad5, e5, hx5_0⟩ := Kd.at_int (Kd.R_reads' HO_12.out).2.2 x14_1 p5 q5
        cases e5
        replace p5 := eq_true p5
        replace q5 := eq_true q5
        go_wp2_with (first | ((with_reducible refine gate_callee (f := 89) rfl ?_); refine goesM_ (some 20) Try.func89 #[.slice A2 l2.length c2, .int .i64 (rd t2 x14_1)] ?_; (with_reducible refine (bits_said.calls _ _ l2 (rd t2 x14_1) t6 _ ?side1 ?side2 A12.out).mono ?_); (case side1 => repeat (first | exact (Kd.C_below HR2.out HB.out) | (with_reducible refine ca_ ?_ _) | (with_reducible refine cn_ ?_ _) | (with_reducible refine cd_ ?_))); (case side2 => exact HC2.out); rintro e w' ⟨rfl, ⟨nd, rfl⟩⟩; refine ⟨_, rfl, ?_⟩))
        go_roundg k1
        case measure => have := HK1.out; omega
        case rel => exact ⟨(0), (wrap64 (x14_1 + 1)), (by first | rfl | (simp; done) | (simp [*]; done)), (by first | rfl | (simp; done) | (simp [*]; done)), H', ⟨by have := HK1.out; omega⟩, ⟨by (with_reducible repeat (first | apply ra_ | apply rn_ | apply rd_)); exact HO_12.out⟩, ⟨by (with_reducible repeat (first | refine kn_ ?_ _ | refine kd_ ?_ | refine ka_ ?_ _)); exact BK1.out⟩, ⟨by repeat (with_reducible first | exact HB.out | apply ba_ | apply bn_ | apply bd_ | refine bs_ ?_ GE1.out)⟩⟩
       ·rw [if_neg c14] at H
        have c14b0 : (t6 == 0) = false := beq_eq_false_iff_ne.mpr c14
        have c14b1 : (t6 != 0) = true := bne_iff_ne.mpr c14
        have H' := Aside0.mk H
        clear H
        have p5 : 0 ≤ (x14_1 : Int) := of_decide_eq_true (by first | (with_reducible assumption) | assumption)
        have q5 : x14_1 < (t2.length : Int) := of_decide_eq_true (by first | (with_reducible assumption) | assumption)
        obtain ⟨ad5, e5, hx5_0⟩ := Kd.at_int (Kd.R_reads' HO_12.out).2.2 x14_1 p5 q5
        cases e5
        replace p5 := eq_true p5
        replace q5 := eq_true q5
        go_wp2_with (first | ((with_reducible refine gate_callee (f := 89) rfl ?_); refine goesM_ (some 20) Try.func89 #[.slice A2 l2.length c2, .int .i64 (rd t2 x14_1)] ?_; (with_reducible refine (bits_said.calls _ _ l2 (rd t2 x14_1) t6 _ ?side1 ?side2 A12.out).mono ?_); (case side1 => repeat (first | exact (Kd.C_below HR2.out HB.out) | (with_reducible refine ca_ ?_ _) | (with_reducible refine cn_ ?_ _) | (with_reducible refine cd_ ?_))); (case side2 => exact HC2.out); rintro e w' ⟨rfl, ⟨nd, rfl⟩⟩; refine ⟨_, rfl, ?_⟩))
        go_roundg k1
        case measure => have := HK1.out; omega
        case rel => exact ⟨(x7_1), (wrap64 (x14_1 + 1)), (by first | rfl | (simp; done) | (simp [*]; done)), (by first | rfl | (simp; done) | (simp [*]; done)), H', ⟨by have := HK1.out; omega⟩, ⟨by (with_reducible repeat (first | apply ra_ | apply rn_ | apply rd_)); exact HO_12.out⟩, ⟨by (with_reducible repeat (first | refine kn_ ?_ _ | refine kd_ ?_ | refine ka_ ?_ _)); exact BK1.out⟩, ⟨by repeat (with_reducible first | exact HB.out | apply ba_ | apply bn_ | apply bd_ | refine bs_ ?_ GE1.out)⟩⟩
     ·rw [if_neg c11] at H
      exact absurd H (by simp)
    ·rw [if_neg c10] at H
     exact absurd H (by simp)
   ·rw [if_neg c9] at H
    have c9b0 : decide (x14_1 < (t2.length : Int)) = false := decide_eq_false c9
    clear c9
    obtain rfl := Option.some.inj H
    go_wp2
    go_ret
    exact ⟨by first | rfl | (simp [errW_none, errW_some] <;> rfl) | (simp [*, errW_none, errW_some] <;> rfl), by repeat (with_reducible first | exact HB.out | apply ba_ | apply bn_ | apply bd_ | refine bs_ ?_ GE1.out)⟩
def cmp_isNaN_int.f (a0 : Int) : Option (Bool) := some (a0 != a0)
set_option maxHeartbeats 8000000 in
set_option maxRecDepth 100000 in
theorem cmp_isNaN_int.calls (a0 : Int) (r : Bool) (w : World) (h : cmp_isNaN_int.f a0 = some r) :
  Calls Try.prog 170 #[.int .i64 a0] w fun e w' => e = .returned (.bool r) ∧ Drawn0 w w' := by
 have H : (some (a0 != a0)) = some r := h
 clear h
 obtain rfl := Option.some.inj H
 go_enter Try.func170, Try.ntmps170
 go_wp2
 go_ret
 exact ⟨by first | rfl | (simp; done) | (simp [*]; done), by repeat (first | exact Drawn0.refl _ | apply Drawn0.step)⟩
def cmp_Compare_int.f (a0 : Int) (a1 : Int) : Option (Int) := (cmp_isNaN_int.f a0).bind fun t1 => ((cmp_isNaN_int.f a1).bind fun t2 => (if t1 = true then (if t2 = true then (some 0) else (some (-1))) else (if t2 = true then (some 1) else (if a0 < a1 then (some (-1)) else (if a0 > a1 then (some 1) else (some 0))))))
set_option maxHeartbeats 8000000 in
set_option maxRecDepth 100000 in
theorem cmp_Compare_int.calls (a0 : Int) (a1 : Int) (r : Int) (w : World) (h : cmp_Compare_int.f a0 a1 = some r) :
  Calls Try.prog 134 #[.int .i64 a0, .int .i64 a1] w fun e w' => e = .returned (.int .i64 r) ∧ Drawn0 w w' := by
 have H : ((cmp_isNaN_int.f a0).bind fun t1 => ((cmp_isNaN_int.f a1).bind fun t2 => (if t1 = true then (if t2 = true then (some 0) else (some (-1))) else (if t2 = true then (some 1) else (if a0 < a1 then (some (-1)) else (if a0 > a1 then (some 1) else (some 0))))))) = some r := h
 clear h
 replace H := Option.bind_eq_some_iff.mp H
 obtain ⟨t1, A30, H⟩ := H
 (try dsimp only at H)
 have A3 := Aside0.mk A30
 clear A30
 replace H := Option.bind_eq_some_iff.mp H
 obtain ⟨t2, A40, H⟩ := H
 (try dsimp only at H)
 have A4 := Aside0.mk A40
 clear A40
 by_cases c5 : t1 = true
 ·subst c5
  have H1 : (if t2 = true then (some 0) else (some (-1))) = some r := by rw [if_pos rfl] at H; exact H
  clear H
  have H := H1
  clear H1
  by_cases c6 : t2 = true
  ·subst c6
   have H1 : (some 0) = some r := by rw [if_pos rfl] at H; exact H
   clear H
   have H := H1
   clear H1
   obtain rfl := Option.some.inj H
   go_enter Try.func134, Try.ntmps134
   go_wp2_with (first | ((with_reducible refine gate_callee (f := 170) rfl ?_); refine goesM_ (some 8) Try.func170 #[.int .i64 a0] ?_; (with_reducible refine (cmp_isNaN_int.calls a0 true _ A3.out).mono ?_); rintro e w' ⟨rfl, ⟨nd, rfl⟩⟩; refine ⟨_, rfl, ?_⟩) | ((with_reducible refine gate_callee (f := 170) rfl ?_); refine goesM_ (some 10) Try.func170 #[.int .i64 a1] ?_; (with_reducible refine (cmp_isNaN_int.calls a1 true _ A4.out).mono ?_); rintro e w' ⟨rfl, ⟨nd, rfl⟩⟩; refine ⟨_, rfl, ?_⟩))
   go_ret
   exact ⟨by first | rfl | (simp; done) | (simp [*]; done), by repeat (first | exact Drawn0.refl _ | apply Drawn0.step)⟩
  ·replace c6 := Bool.eq_false_iff.mpr c6
   subst c6
   have H1 : (some (-1)) = some r := by rw [if_neg (show ¬ (false = true) by decide)] at H; exact H
   clear H
   have H := H1
   clear H1
   obtain rfl := Option.some.inj H
   go_enter Try.func134, Try.ntmps134
   go_wp2_with (first | ((with_reducible refine gate_callee (f := 170) rfl ?_); refine goesM_ (some 8) Try.func170 #[.int .i64 a0] ?_; (with_reducible refine (cmp_isNaN_int.calls a0 true _ A3.out).mono ?_); rintro e w' ⟨rfl, ⟨nd, rfl⟩⟩; refine ⟨_, rfl, ?_⟩) | ((with_reducible refine gate_callee (f := 170) rfl ?_); refine goesM_ (some 10) Try.func170 #[.int .i64 a1] ?_; (with_reducible refine (cmp_isNaN_int.calls a1 false _ A4.out).mono ?_); rintro e w' ⟨rfl, ⟨nd, rfl⟩⟩; refine ⟨_, rfl, ?_⟩))
   go_ret
   exact ⟨by first | rfl | (simp; done) | (simp [*]; done), by repeat (first | exact Drawn0.refl _ | apply Drawn0.step)⟩
 ·replace c5 := Bool.eq_false_iff.mpr c5
  subst c5
  have H1 : (if t2 = true then (some 1) else (if a0 < a1 then (some (-1)) else (if a0 > a1 then (some 1) else (some 0)))) = some r := by rw [if_neg (show ¬ (false = true) by decide)] at H; exact H
  clear H
  have H := H1
  clear H1
  by_cases c7 : t2 = true
  ·subst c7
   have H1 : (some 1) = some r := by rw [if_pos rfl] at H; exact H
   clear H
   have H := H1
   clear H1
   obtain rfl := Option.some.inj H
   go_enter Try.func134, Try.ntmps134
   go_wp2_with (first | ((with_reducible refine gate_callee (f := 170) rfl ?_); refine goesM_ (some 8) Try.func170 #[.int .i64 a0] ?_; (with_reducible refine (cmp_isNaN_int.calls a0 false _ A3.out).mono ?_); rintro e w' ⟨rfl, ⟨nd, rfl⟩⟩; refine ⟨_, rfl, ?_⟩) | ((with_reducible refine gate_callee (f := 170) rfl ?_); refine goesM_ (some 10) Try.func170 #[.int .i64 a1] ?_; (with_reducible refine (cmp_isNaN_int.calls a1 true _ A4.out).mono ?_); rintro e w' ⟨rfl, ⟨nd, rfl⟩⟩; refine ⟨_, rfl, ?_⟩))
   go_ret
   exact ⟨by first | rfl | (simp; done) | (simp [*]; done), by repeat (first | exact Drawn0.refl _ | apply Drawn0.step)⟩
  ·replace c7 := Bool.eq_false_iff.mpr c7
   subst c7
   have H1 : (if a0 < a1 then (some (-1)) else (if a0 > a1 then (some 1) else (some 0))) = some r := by rw [if_neg (show ¬ (false = true) by decide)] at H; exact H
   clear H
   have H := H1
   clear H1
   by_cases c8 : a0 < a1
   ·rw [if_pos c8] at H
    have c8b0 : decide (a0 < a1) = true := decide_eq_true c8
    clear c8
    obtain rfl := Option.some.inj H
    go_enter Try.func134, Try.ntmps134
    go_wp2_with (first | ((with_reducible refine gate_callee (f := 170) rfl ?_); refine goesM_ (some 8) Try.func170 #[.int .i64 a0] ?_; (with_reducible refine (cmp_isNaN_int.calls a0 false _ A3.out).mono ?_); rintro e w' ⟨rfl, ⟨nd, rfl⟩⟩; refine ⟨_, rfl, ?_⟩) | ((with_reducible refine gate_callee (f := 170) rfl ?_); refine goesM_ (some 10) Try.func170 #[.int .i64 a1] ?_; (with_reducible refine (cmp_isNaN_int.calls a1 false _ A4.out).mono ?_); rintro e w' ⟨rfl, ⟨nd, rfl⟩⟩; refine ⟨_, rfl, ?_⟩))
    go_ret
    exact ⟨by first | rfl | (simp; done) | (simp [*]; done), by repeat (first | exact Drawn0.refl _ | apply Drawn0.step)⟩
   ·rw [if_neg c8] at H
    have c8b0 : decide (a0 < a1) = false := decide_eq_false c8
    clear c8
    by_cases c9 : a0 > a1
    ·rw [if_pos c9] at H
     have c9b0 : decide (a1 < a0) = true := decide_eq_true c9
     clear c9
     obtain rfl := Option.some.inj H
     go_enter Try.func134, Try.ntmps134
     go_wp2_with (first | ((with_reducible refine gate_callee (f := 170) rfl ?_); refine goesM_ (some 8) Try.func170 #[.int .i64 a0] ?_; (with_reducible refine (cmp_isNaN_int.calls a0 false _ A3.out).mono ?_); rintro e w' ⟨rfl, ⟨nd, rfl⟩⟩; refine ⟨_, rfl, ?_⟩) | ((with_reducible refine gate_callee (f := 170) rfl ?_); refine goesM_ (some 10) Try.func170 #[.int .i64 a1] ?_; (with_reducible refine (cmp_isNaN_int.calls a1 false _ A4.out).mono ?_); rintro e w' ⟨rfl, ⟨nd, rfl⟩⟩; refine ⟨_, rfl, ?_⟩))
     go_ret
     exact ⟨by first | rfl | (simp; done) | (simp [*]; done), by repeat (first | exact Drawn0.refl _ | apply Drawn0.step)⟩
    ·rw [if_neg c9] at H
     have c9b0 : decide (a1 < a0) = false := decide_eq_false c9
     clear c9
     obtain rfl := Option.some.inj H
     go_enter Try.func134, Try.ntmps134
     go_wp2_with (first | ((with_reducible refine gate_callee (f := 170) rfl ?_); refine goesM_ (some 8) Try.func170 #[.int .i64 a0] ?_; (with_reducible refine (cmp_isNaN_int.calls a0 false _ A3.out).mono ?_); rintro e w' ⟨rfl, ⟨nd, rfl⟩⟩; refine ⟨_, rfl, ?_⟩) | ((with_reducible refine gate_callee (f := 170) rfl ?_); refine goesM_ (some 10) Try.func170 #[.int .i64 a1] ?_; (with_reducible refine (cmp_isNaN_int.calls a1 false _ A4.out).mono ?_); rintro e w' ⟨rfl, ⟨nd, rfl⟩⟩; refine ⟨_, rfl, ?_⟩))
     go_ret
     exact ⟨by first | rfl | (simp; done) | (simp [*]; done), by repeat (first | exact Drawn0.refl _ | apply Drawn0.step)⟩
def cmp_Or_int.l0 : Nat → Int → List Int → Int → Int → Option (Int)
 | 0, _, _, _, _ => none
 | k + 1, x3, x6, x7, x8 => if x8 < x7 then (if 0 ≤ x8 then (if x8 < (x6.length : Int) then (if (rd x6 x8) = x3 then (cmp_Or_int.l0 k x3 x6 x7 (wrap64 (x8 + 1))) else (some (rd x6 x8))) else (none)) else (none)) else (some x3)
def cmp_Or_int.f (k : Nat) (l0 : List Int) : Option (Int) := cmp_Or_int.l0 k 0 l0 (l0.length : Int) 0
set_option maxHeartbeats 8000000 in
set_option maxRecDepth 100000 in
theorem cmp_Or_int.calls (k : Nat) (A0 : Option Addr) (c0 : Nat) (l0 : List Int) (r : Int) (w : World) (hr0 : Kd.C (Kd.int .i64) w A0 l0.length l0) (hc0 : l0.length ≤ c0) (h : cmp_Or_int.f k l0 = some r) :
  Calls Try.prog 133 #[.slice A0 l0.length c0] w fun e w' => e = .returned (.int .i64 r) ∧ Drawn0 w w' := by
 have HR0 := Aside0.mk hr0
 have HC0 := Aside0.mk hc0
 clear hr0 hc0
 have H : (cmp_Or_int.l0 k 0 l0 (l0.length : Int) 0) = some r := h
 clear h
 have H' := Aside0.mk H
 clear H
 go_enter Try.func133, Try.ntmps133
 go_wp2
 go_loopg [8] k (fun kq v8 w' => ∃ (x8_1 : Int), v8 = .int .i64 x8_1 ∧ Aside0 (cmp_Or_int.l0 kq 0 l0 (l0.length : Int) x8_1 = some r) ∧ Aside0 (kq ≤ k) ∧ Drawn0 w w')
 case atStart => exact ⟨(0), (by first | rfl | (simp; done) | (simp [*]; done)), H', ⟨Nat.le_refl _⟩, by repeat (first | exact Drawn0.refl _ | apply Drawn0.step)⟩
 case round =>
  clear H'
  try clear c1
  obtain ⟨x8_1, rfl, HA, HK1, ⟨m1, rfl⟩⟩ := hrel
  cases gk with
  | zero => exact absurd HA.out (by simp [cmp_Or_int.l0])
  | succ k1 =>
   have H := HA.out
   clear HA
   simp only [cmp_Or_int.l0] at H
   by_cases c2 : x8_1 < (l0.length : Int)
   ·rw [if_pos c2] at H
    have c2b0 : decide (x8_1 < (l0.length : Int)) = true := decide_eq_true c2
    clear c2
    by_cases c3 : 0 ≤ x8_1
    ·rw [if_pos c3] at H
     have c3b0 : decide (0 ≤ x8_1) = true := decide_eq_true c3
     clear c3
     by_cases c4 : x8_1 < (l0.length : Int)
     ·rw [if_pos c4] at H
      have c4b0 : decide (x8_1 < (l0.length : Int)) = true := decide_eq_true c4
      clear c4
      by_cases c5 : (rd l0 x8_1) = 0
      ·rw [if_pos c5] at H
       have c5b0 : ((rd l0 x8_1) == 0) = true := beq_iff_eq.mpr c5
       have c5b1 : ((rd l0 x8_1) != 0) = false := bne_eq_false_iff_eq.mpr c5
       clear c5
       have H' := Aside0.mk H
       clear H
       have p1 : 0 ≤ (x8_1 : Int) := of_decide_eq_true (by first | (with_reducible assumption) | assumption)
       have q1 : x8_1 < (l0.length : Int) := of_decide_eq_true (by first | (with_reducible assumption) | assumption)
       obtain ⟨ad1, e1, hx1_0⟩ := Kd.at_int HR0.out x8_1 p1 q1
       cases e1
       replace p1 := eq_true p1
       replace q1 := eq_true q1
       go_wp2
       go_roundg k1
       case measure => have := HK1.out; omega
       case rel => exact ⟨(wrap64 (x8_1 + 1)), (by first | rfl | (simp; done) | (simp [*]; done)), H', ⟨by have := HK1.out; omega⟩, by repeat (first | exact Drawn0.refl _ | apply Drawn0.step)⟩
      ·rw [if_neg c5] at H
       have c5b0 : ((rd l0 x8_1) == 0) = false := beq_eq_false_iff_ne.mpr c5
       have c5b1 : ((rd l0 x8_1) != 0) = true := bne_iff_ne.mpr c5
       obtain rfl := Option.some.inj H
       have p1 : 0 ≤ (x8_1 : Int) := of_decide_eq_true (by first | (with_reducible assumption) | assumption)
       have q1 : x8_1 < (l0.length : Int) := of_decide_eq_true (by first | (with_reducible assumption) | assumption)
       obtain ⟨ad1, e1, hx1_0⟩ := Kd.at_int HR0.out x8_1 p1 q1
       cases e1
       replace p1 := eq_true p1
       replace q1 := eq_true q1
       go_wp2
       go_ret
       exact ⟨by first | rfl | (simp; done) | (simp [*]; done), by repeat (first | exact Drawn0.refl _ | apply Drawn0.step)⟩
     ·rw [if_neg c4] at H
      exact absurd H (by simp)
    ·rw [if_neg c3] at H
     exact absurd H (by simp)
   ·rw [if_neg c2] at H
    have c2b0 : decide (x8_1 < (l0.length : Int)) = false := decide_eq_false c2
    clear c2
    obtain rfl := Option.some.inj H
    go_wp2
    go_ret
    exact ⟨by first | rfl | (simp; done) | (simp [*]; done), by repeat (first | exact Drawn0.refl _ | apply Drawn0.step)⟩
def bits_notes_find_1.f (k : Nat) (a0_0 : Int) (a0_1 : Int) (a0_2 : Int) (a1_0 : Int) (a1_1 : Int) (a1_2 : Int) : Option (Int) := (cmp_Compare_int.f a0_0 a1_0).bind fun t3 => ((cmp_Compare_int.f a0_1 a1_1).bind fun t4 => ((cmp_Or_int.f k (([t3, t4] : List Int))).bind fun t8 => (some t8)))
def bits_notes_find_1.T1 : Bool × List (List Nat × List Nat) := (true, [([], []), ([0], [0]), ([], []), ([2], [2]), ([1, 3], [1, 3]), ([], []), ([5], [5]), ([], []), ([7], [7]), ([6, 8, 4], [6, 8]), ([4, 9], [4, 9]), ([10, 9], [10]), ([11, 11, 0, 1, 2, 3, 4, 5, 6, 7, 8, 9, 10, 11], [11])])
def bits_notes_find_1.B1 : List Nat := [0, 1, 0, 4, 15, 0, 32, 0, 128, 511, 1023, 2047, 4095]
theorem bits_notes_find_1.tab1 : rtab .any (opsOf Try.f132 1) = bits_notes_find_1.T1 := by kernel_rfl
theorem bits_notes_find_1.bits1 : waitsOk bits_notes_find_1.T1.2 bits_notes_find_1.B1 = true := by kernel_rfl
set_option maxHeartbeats 8000000 in
set_option maxRecDepth 100000 in
theorem bits_notes_find_1.calls (k : Nat) (a0_0 : Int) (a0_1 : Int) (a0_2 : Int) (a1_0 : Int) (a1_1 : Int) (a1_2 : Int) (r : Int) (w : World) (h : bits_notes_find_1.f k a0_0 a0_1 a0_2 a1_0 a1_1 a1_2 = some r) :
  Calls Try.prog 132 #[.agg #[.int .i64 a0_0, .int .i64 a0_1, .int .i64 a0_2], .agg #[.int .i64 a1_0, .int .i64 a1_1, .int .i64 a1_2]] w fun e w' => e = .returned (.int .i64 r) ∧ Below w.heap.size w w' := by
 have hu52 := Try.underlying52
 have HB := Aside0.mk (Below.refl w.heap.size w)
 have H : ((cmp_Compare_int.f a0_0 a1_0).bind fun t3 => ((cmp_Compare_int.f a0_1 a1_1).bind fun t4 => ((cmp_Or_int.f k (([t3, t4] : List Int))).bind fun t8 => (some t8)))) = some r := h
 clear h
 replace H := Option.bind_eq_some_iff.mp H
 obtain ⟨t3, A30, H⟩ := H
 (try dsimp only at H)
 have A3 := Aside0.mk A30
 clear A30
 replace H := Option.bind_eq_some_iff.mp H
 obtain ⟨t4, A40, H⟩ := H
 (try dsimp only at H)
 have A4 := Aside0.mk A40
 clear A40
 obtain ⟨y5, hy5⟩ : ∃ y_ : List Int, y_ = (([t3, t4] : List Int)) := ⟨_, rfl⟩
 replace H : ((cmp_Or_int.f k y5).bind fun t8 => (some t8)) = some r := by first | (rw [hy5]; with_reducible exact H) | (have H2_ := (Option.bind_some _ _).symm.trans H; rw [hy5]; with_reducible exact H2_) | (have H2_ := (Option.bind_some _ _).symm.trans H; with_reducible exact H2_) | with_reducible exact H | (rw [hy5]; exact H) | exact H
 have Ny5 := Aside0.mk hy5
 clear hy5
 replace H := Option.bind_eq_some_iff.mp H
 obtain ⟨t8, A50, H⟩ := H
 (try dsimp only at H)
 have A5 := Aside0.mk A50
 clear A50
 obtain rfl := Option.some.inj H
 go_enter Try.func132, Try.ntmps132
 try go_wp2_with (first | ((with_reducible refine gate_dst (N := 2) rfl ?_); refine box_event ?hg (N := 2) ?hd (cs := #[.int .i64 a0_0, .int .i64 a0_1, .int .i64 a0_2]) (t := 52) ?hr ?_; (case hd => rfl); (case hg => rfl); (case hr => first | (go_simp; done) | (go_simp; rfl)); intro gb1 hg w6 hbox hb; have n0_ := Aside0.mk (below_step (by repeat (with_reducible first | exact HB.out | apply ba_ | apply bn_ | apply bd_)) hb); have n1_ := Aside0.mk (hbox); have n2_ := Aside0.mk ((by rw [hg]; exact (below_size (by repeat (with_reducible first | exact HB.out | apply ba_ | apply bn_ | apply bd_))) : w.heap.size ≤ gb1)); have n3_ := Aside0.mk ((by rw [hg]; exact (below_size (by repeat (with_reducible first | exact HB.out | apply ba_ | apply bn_ | apply bd_))) : w.heap.size ≤ gb1)); clear HB; have HB := n0_; have BK1 := n1_; have GW1 := n2_; have GE1 := n3_; clear n0_ n1_ n2_ n3_; clear hb hbox hg) | ((with_reducible refine gate_dst (N := 3) rfl ?_); refine box_event ?hg (N := 3) ?hd (cs := #[.int .i64 a1_0, .int .i64 a1_1, .int .i64 a1_2]) (t := 52) ?hr ?_; (case hd => rfl); (case hg => rfl); (case hr => first | (go_simp; done) | (go_simp; rfl)); intro gb2 hg w7 hbox hb; have n0_ := Aside0.mk (blk_below (g := gb1) (o := .cells #[.int .i64 a0_0, .int .i64 a0_1, .int .i64 a0_2] 52 (0, 0)) (by (with_reducible repeat (first | refine kn_ ?_ _ | refine kd_ ?_ | refine ka_ ?_ _)); exact BK1.out) hb); have n1_ := Aside0.mk (below_step (by repeat (with_reducible first | exact HB.out | apply ba_ | apply bn_ | apply bd_ | refine bs_ ?_ GE1.out)) hb); have n2_ := Aside0.mk (hbox); have n3_ := Aside0.mk ((by rw [hg]; exact (below_size (by repeat (with_reducible first | exact HB.out | apply ba_ | apply bn_ | apply bd_ | refine bs_ ?_ GE1.out))) : w.heap.size ≤ gb2)); have n4_ := Aside0.mk ((by rw [hg]; exact (below_size (by repeat (with_reducible first | exact HB.out | apply ba_ | apply bn_ | apply bd_ | refine bs_ ?_ GE1.out))) : w.heap.size ≤ gb2)); have n5_ := Aside0.mk ((by rw [hg]; exact Nat.ne_of_lt (blk_lt (g := gb1) (o := .cells #[.int .i64 a0_0, .int .i64 a0_1, .int .i64 a0_2] 52 (0, 0)) (by (with_reducible repeat (first | refine kn_ ?_ _ | refine kd_ ?_ | refine ka_ ?_ _)); exact BK1.out)) : gb1 ≠ gb2)); have n6_ := Aside0.mk ((by rw [hg]; exact Nat.ne_of_gt (blk_lt (g := gb1) (o := .cells #[.int .i64 a0_0, .int .i64 a0_1, .int .i64 a0_2] 52 (0, 0)) (by (with_reducible repeat (first | refine kn_ ?_ _ | refine kd_ ?_ | refine ka_ ?_ _)); exact BK1.out)) : gb2 ≠ gb1)); clear BK1; clear HB; have BK1 := n0_; have HB := n1_; have BK2 := n2_; have GW2 := n3_; have GE2 := n4_; have NB1_2 := n5_; have NB2_1 := n6_; clear n0_ n1_ n2_ n3_ n4_ n5_ n6_; clear hb hbox hg))
 have n0_ := Aside0.mk (blk_drew BK1.out)
 have n1_ := Aside0.mk (blk_drew BK2.out)
 have n2_ := Aside0.mk (below_drew1 HB.out)
 clear BK1
 clear BK2
 clear HB
 have BK1 := n0_
 have BK2 := n1_
 have HB := n2_
 clear n0_ n1_ n2_
 refine start_ (n := 13) (S := fun w' => w'.cell? ⟨gb1, 0, none⟩ = some (.int .i64 a0_0) ∧ w'.cell? ⟨gb1, 1, none⟩ = some (.int .i64 a0_1) ∧ w'.cell? ⟨gb1, 2, none⟩ = some (.int .i64 a0_2) ∧ w'.cell? ⟨gb2, 0, none⟩ = some (.int .i64 a1_0) ∧ w'.cell? ⟨gb2, 1, none⟩ = some (.int .i64 a1_1) ∧ w'.cell? ⟨gb2, 2, none⟩ = some (.int .i64 a1_2)) (ds := []) #[false, false, false, false, false, false, false, false, false, false, false, false, false] (by kernel_rfl) rfl rfl ⟨(blk_cell BK1.out 0).trans rfl, (blk_cell BK1.out 1).trans rfl, (blk_cell BK1.out 2).trans rfl, (blk_cell BK2.out 0).trans rfl, (blk_cell BK2.out 1).trans rfl, (blk_cell BK2.out 2).trans rfl⟩ (fun hHeld => ?_); refine with_tabW bits_notes_find_1.tab1 bits_notes_find_1.bits1 (fun HT_ HW_ => ?_)
 generalize w7.drew = w8 at BK1 BK2 HB hHeld ⊢
 refine pure_ (i := 0) (N := some 5) (v := ?_) (a' := ?_) #[true, false, false, false, false, false, false, false, false, false, false, false, false] rfl rfl (any_of HT_.out (by kernel_rfl)) (fun _ _ _ h => h) (Or.inl ⟨by rfl, ?_⟩) ?_ ?_
 rotate_left
 ·intro w'
  go_simp
  with_reducible rfl
 rotate_left
 ·simp only [Act.put, List.setIfInBounds_toArray, List.set_cons_zero, List.set_cons_succ, i64_w, i32_w]
  rfl
 refine pure_ (i := 2) (N := some 7) (v := ?_) (a' := ?_) #[true, false, true, false, false, false, false, false, false, false, false, false, false] rfl rfl (any_of HT_.out (by kernel_rfl)) (fun _ _ _ h => h) (Or.inl ⟨by rfl, ?_⟩) ?_ ?_
 rotate_left
 ·intro w'
  go_simp
  with_reducible rfl
 rotate_left
 ·simp only [Act.put, List.setIfInBounds_toArray, List.set_cons_zero, List.set_cons_succ, i64_w, i32_w]
  rfl
 refine pure_ (i := 5) (N := some 10) (v := ?_) (a' := ?_) #[true, false, true, false, false, true, false, false, false, false, false, false, false] rfl rfl (any_of HT_.out (by kernel_rfl)) (fun _ _ _ h => h) (Or.inl ⟨by rfl, ?_⟩) ?_ ?_
 rotate_left
 ·intro w'
  go_simp
  with_reducible rfl
 rotate_left
 ·simp only [Act.put, List.setIfInBounds_toArray, List.set_cons_zero, List.set_cons_succ, i64_w, i32_w]
  rfl
 refine pure_ (i := 7) (N := some 12) (v := ?_) (a' := ?_) #[true, false, true, false, false, true, false, true, false, false, false, false, false] rfl rfl (any_of HT_.out (by kernel_rfl)) (fun _ _ _ h => h) (Or.inl ⟨by rfl, ?_⟩) ?_ ?_
 rotate_left
 ·intro w'
  go_simp
  with_reducible rfl
 rotate_left
 ·simp only [Act.put, List.setIfInBounds_toArray, List.set_cons_zero, List.set_cons_succ, i64_w, i32_w]
  rfl
 refine take_ (i := 1) (N := some 6) (v := ?_) (a' := ?_) #[true, true, true, false, false, true, false, true, false, false, false, false, false] rfl rfl (take_ofW HT_.out HW_.out (by kernel_rfl)) (fun _ _ _ h => h) (Or.inl ⟨by rfl, ?_⟩) hHeld ?_ ?_
 rotate_left
 ·rintro w' ⟨s0, s1, s2, s3, s4, s5⟩
  go_simp
  with_reducible rfl
 rotate_left
 ·simp only [Act.put, List.setIfInBounds_toArray, List.set_cons_zero, List.set_cons_succ, i64_w, i32_w]
  rfl
 refine take_ (i := 3) (N := some 8) (v := ?_) (a' := ?_) #[true, true, true, true, false, true, false, true, false, false, false, false, false] rfl rfl (take_ofW HT_.out HW_.out (by kernel_rfl)) (fun _ _ _ h => h) (Or.inl ⟨by rfl, ?_⟩) hHeld ?_ ?_
 rotate_left
 ·rintro w' ⟨s0, s1, s2, s3, s4, s5⟩
  go_simp
  with_reducible rfl
 rotate_left
 ·simp only [Act.put, List.setIfInBounds_toArray, List.set_cons_zero, List.set_cons_succ, i64_w, i32_w]
  rfl
 refine take_ (i := 6) (N := some 11) (v := ?_) (a' := ?_) #[true, true, true, true, false, true, true, true, false, false, false, false, false] rfl rfl (take_ofW HT_.out HW_.out (by kernel_rfl)) (fun _ _ _ h => h) (Or.inl ⟨by rfl, ?_⟩) hHeld ?_ ?_
 rotate_left
 ·rintro w' ⟨s0, s1, s2, s3, s4, s5⟩
  go_simp
  with_reducible rfl
 rotate_left
 ·simp only [Act.put, List.setIfInBounds_toArray, List.set_cons_zero, List.set_cons_succ, i64_w, i32_w]
  rfl
 refine take_ (i := 8) (N := some 13) (v := ?_) (a' := ?_) #[true, true, true, true, false, true, true, true, true, false, false, false, false] rfl rfl (take_ofW HT_.out HW_.out (by kernel_rfl)) (fun _ _ _ h => h) (Or.inl ⟨by rfl, ?_⟩) hHeld ?_ ?_
 rotate_left
 ·rintro w' ⟨s0, s1, s2, s3, s4, s5⟩
  go_simp
  with_reducible rfl
 rotate_left
 ·simp only [Act.put, List.setIfInBounds_toArray, List.set_cons_zero, List.set_cons_succ, i64_w, i32_w]
  rfl
 refine one_ (i := 4) (N := some 9) #[true, true, true, true, true, true, true, true, true, false, false, false, false] rfl rfl (one_of HT_.out (by kernel_rfl)) (by decide) (fun K hK => ?_)
 refine goesV_ Try.func134 (by kernel_rfl) rfl #[.int .i64 a0_0, .int .i64 a1_0] (by rfl) rfl rfl (by (try simp only [List.map_toArray, List.map_cons, List.map_nil]); first | done | rfl | (simp only [List.length_drop, List.length_take]; rfl)) ?_
 with_reducible refine (cmp_Compare_int.calls a0_0 a1_0 t3 _ A3.out).mono ?_
 rintro e w' ⟨rfl, ⟨nd, rfl⟩⟩
 refine ⟨_, rfl, ?_⟩
 refine hK.out _ _ ⟨(blk_cell BK1.out 0).trans rfl, (blk_cell BK1.out 1).trans rfl, (blk_cell BK1.out 2).trans rfl, (blk_cell BK2.out 0).trans rfl, (blk_cell BK2.out 1).trans rfl, (blk_cell BK2.out 2).trans rfl⟩ (fun hHeld => ?_)
 clear hK K
 refine norm_ (a' := ?_) ?_ ?_
 rotate_left
 ·show Act.put _ (some 9) _ = _
  simp only [Act.put, List.setIfInBounds_toArray, List.set_cons_zero, List.set_cons_succ, i64_w, i32_w]
  rfl
 refine one_ (i := 9) (N := some 14) #[true, true, true, true, true, true, true, true, true, true, false, false, false] rfl rfl (one_of HT_.out (by kernel_rfl)) (by decide) (fun K hK => ?_)
 refine goesV_ Try.func134 (by kernel_rfl) rfl #[.int .i64 a0_1, .int .i64 a1_1] (by rfl) rfl rfl (by (try simp only [List.map_toArray, List.map_cons, List.map_nil]); first | done | rfl | (simp only [List.length_drop, List.length_take]; rfl)) ?_
 with_reducible refine (cmp_Compare_int.calls a0_1 a1_1 t4 _ A4.out).mono ?_
 rintro e w' ⟨rfl, ⟨nd, rfl⟩⟩
 refine ⟨_, rfl, ?_⟩
 refine hK.out _ _ ⟨(blk_cell BK1.out 0).trans rfl, (blk_cell BK1.out 1).trans rfl, (blk_cell BK1.out 2).trans rfl, (blk_cell BK2.out 0).trans rfl, (blk_cell BK2.out 1).trans rfl, (blk_cell BK2.out 2).trans rfl⟩ (fun hHeld => ?_)
 clear hK K
 refine norm_ (a' := ?_) ?_ ?_
 rotate_left
 ·show Act.put _ (some 14) _ = _
  simp only [Act.put, List.setIfInBounds_toArray, List.set_cons_zero, List.set_cons_succ, i64_w, i32_w]
  rfl
 refine one_ (i := 10) (N := some 15) #[true, true, true, true, true, true, true, true, true, true, true, false, false] rfl rfl (one_of HT_.out (by kernel_rfl)) (by decide) (fun K hK => ?_)
 refine Kd.R_lit_step (Kd.int .i64) _ 3 ?hg (N := 15) ?hd (xs := ([t3, t4] : List Int)) (inner := [.int .i64 t3, .int .i64 t4]) (ok := fun _ => True) (okp := fun _ => True) ?hr ?hp (fun _ hk => hk) trivial (Below.refl _ _) (Nat.le_refl _) (by simp) ?_; (case hd => rfl); (case hg => rfl); (case hr => first | (go_simp; done) | (go_simp; rfl)); (case hp => exact (Reps.one (show Kd.M (Kd.int .i64) _ _ _ t3 [.int .i64 t3] from rfl) (Reps.one (show Kd.M (Kd.int .i64) _ _ _ t4 [.int .i64 t4] from rfl) (Reps.none _ _))))
 intro v6 w9 ho10 hb hg_ hnew_
 clear hg_ hnew_
 (first | rw [← Ny5.out] at ho10 | (simp only [Int.reduceToNat] at ho10; rw [← Ny5.out] at ho10))
 have n0_ := Aside0.mk (Kd.R_lower ho10 (below_size (by repeat (with_reducible first | exact HB.out | apply ba_ | apply bn_ | apply bd_ | refine bs_ ?_ GE1.out | refine bs_ ?_ GE2.out))))
 have n1_ := Aside0.mk (blk_below (g := gb1) (o := .cells #[.int .i64 a0_0, .int .i64 a0_1, .int .i64 a0_2] 52 (0, 0)) (by (with_reducible repeat (first | refine kn_ ?_ _ | refine kd_ ?_ | refine ka_ ?_ _)); exact BK1.out) hb)
 have n2_ := Aside0.mk (blk_below (g := gb2) (o := .cells #[.int .i64 a1_0, .int .i64 a1_1, .int .i64 a1_2] 52 (0, 0)) (by (with_reducible repeat (first | refine kn_ ?_ _ | refine kd_ ?_ | refine ka_ ?_ _)); exact BK2.out) hb)
 have n3_ := Aside0.mk (below_step (by repeat (with_reducible first | exact HB.out | apply ba_ | apply bn_ | apply bd_ | refine bs_ ?_ GE1.out | refine bs_ ?_ GE2.out)) hb)
 clear BK1
 clear BK2
 clear HB
 have HO7 := n0_
 have BK1 := n1_
 have BK2 := n2_
 have HB := n3_
 clear n0_ n1_ n2_ n3_
 clear hb ho10
 obtain ⟨Ao11, co11, eo11⟩ := Kd.R_slice HO7.out
 (first | subst eo11 | (injection eo11 with f1_ f2_ f3_; have f4_ := f1_.symm; have f5_ := f3_.symm; clear f1_ f2_ f3_; subst f4_; subst f5_))
 refine hK.out _ _ ⟨(blk_cell BK1.out 0).trans rfl, (blk_cell BK1.out 1).trans rfl, (blk_cell BK1.out 2).trans rfl, (blk_cell BK2.out 0).trans rfl, (blk_cell BK2.out 1).trans rfl, (blk_cell BK2.out 2).trans rfl⟩ (fun hHeld => ?_)
 clear hK K
 refine norm_ (a' := ?_) ?_ ?_
 rotate_left
 ·show Act.put _ (some 15) _ = _
  simp only [Act.put, List.setIfInBounds_toArray, List.set_cons_zero, List.set_cons_succ, i64_w, i32_w]
  rfl
 refine one_ (i := 11) (N := some 16) #[true, true, true, true, true, true, true, true, true, true, true, true, false] rfl rfl (one_of HT_.out (by kernel_rfl)) (by decide) (fun K hK => ?_)
 refine goesV_ Try.func133 (by kernel_rfl) rfl #[.slice Ao11 y5.length co11] (by rfl) rfl rfl (by (try simp only [List.map_toArray, List.map_cons, List.map_nil]); first | done | rfl | (simp only [List.length_drop, List.length_take]; rfl)) ?_
 with_reducible refine (cmp_Or_int.calls k _ _ y5 t8 _ ?side1 ?side2 A5.out).mono ?_
 (case side1 => repeat (first | exact (Kd.R_reads' HO7.out).2.2 | (with_reducible refine ca_ ?_ _) | (with_reducible refine cn_ ?_ _) | (with_reducible refine cd_ ?_)))
 (case side2 => exact (Kd.R_reads' HO7.out).2.1)
 rintro e w' ⟨rfl, ⟨nd, rfl⟩⟩
 refine ⟨_, rfl, ?_⟩
 refine hK.out _ _ ⟨(blk_cell BK1.out 0).trans rfl, (blk_cell BK1.out 1).trans rfl, (blk_cell BK1.out 2).trans rfl, (blk_cell BK2.out 0).trans rfl, (blk_cell BK2.out 1).trans rfl, (blk_cell BK2.out 2).trans rfl⟩ (fun hHeld => ?_)
 clear hK K
 refine norm_ (a' := ?_) ?_ ?_
 rotate_left
 ·show Act.put _ (some 16) _ = _
  simp only [Act.put, List.setIfInBounds_toArray, List.set_cons_zero, List.set_cons_succ, i64_w, i32_w]
  rfl
 refine pure_ (i := 12) (N := some 4) (v := ?_) (a' := ?_) #[true, true, true, true, true, true, true, true, true, true, true, true, true] rfl rfl (any_of HT_.out (by kernel_rfl)) (fun _ _ _ h => h) (Or.inl ⟨by rfl, ?_⟩) ?_ ?_
 rotate_left
 ·intro w'
  go_simp
  with_reducible rfl
 rotate_left
 ·simp only [Act.put, List.setIfInBounds_toArray, List.set_cons_zero, List.set_cons_succ, i64_w, i32_w]
  rfl
 refine done_ (done_of HT_.out (by kernel_rfl)) ?_
 try go_wp2
 go_ret
 exact ⟨by first | rfl | (simp [errW_none, errW_some] <;> rfl) | (simp [*, errW_none, errW_some] <;> rfl), by repeat (with_reducible first | exact HB.out | apply ba_ | apply bn_ | apply bd_ | refine bs_ ?_ GE1.out | refine bs_ ?_ GE2.out)⟩
def slices_BinarySearchFunc_bits_notes_bits_Note_bits_Note_bits_notes_find_1.l0 : Nat → List (S52) → Int → Int → Int → Int → Int → Int → Option (Int × Bool)
 | 0, _, _, _, _, _, _, _ => none
 | k + 1, x0, x8, x9, x10, x2000, x2001, x2002 => if x9 < x10 then (if 0 ≤ (wrap64 ((IntKind.u64.wrap (wrap64 (x9 + x10))) / 2)) then (if (wrap64 ((IntKind.u64.wrap (wrap64 (x9 + x10))) / 2)) < (x0.length : Int) then ((bits_notes_find_1.f k ((rd_T52 x0 (wrap64 ((IntKind.u64.wrap (wrap64 (x9 + x10))) / 2))).f0) ((rd_T52 x0 (wrap64 ((IntKind.u64.wrap (wrap64 (x9 + x10))) / 2))).f1) ((rd_T52 x0 (wrap64 ((IntKind.u64.wrap (wrap64 (x9 + x10))) / 2))).f2) x2000 x2001 x2002).bind fun t3 => (if t3 < 0 then (slices_BinarySearchFunc_bits_notes_bits_Note_bits_Note_bits_notes_find_1.l0 k x0 x8 (wrap64 ((wrap64 ((IntKind.u64.wrap (wrap64 (x9 + x10))) / 2)) + 1)) x10 x2000 x2001 x2002) else (slices_BinarySearchFunc_bits_notes_bits_Note_bits_Note_bits_notes_find_1.l0 k x0 x8 x9 (wrap64 ((IntKind.u64.wrap (wrap64 (x9 + x10))) / 2)) x2000 x2001 x2002))) else (none)) else (none)) else (if x9 < x8 then (if 0 ≤ x9 then (if x9 < (x0.length : Int) then ((bits_notes_find_1.f k ((rd_T52 x0 x9).f0) ((rd_T52 x0 x9).f1) ((rd_T52 x0 x9).f2) x2000 x2001 x2002).bind fun t5 => (some (x9, (t5 == 0)))) else (none)) else (none)) else (some (x9, false)))
def slices_BinarySearchFunc_bits_notes_bits_Note_bits_Note_bits_notes_find_1.f (k : Nat) (l0 : List (S52)) (a1_0 : Int) (a1_1 : Int) (a1_2 : Int)  : Option (Int × Bool) := slices_BinarySearchFunc_bits_notes_bits_Note_bits_Note_bits_notes_find_1.l0 k l0 (l0.length : Int) 0 (l0.length : Int) a1_0 a1_1 a1_2
def slices_BinarySearchFunc_bits_notes_bits_Note_bits_Note_bits_notes_find_1.T5 : Bool × List (List Nat × List Nat) := (true, [([], []), ([], []), ([], []), ([1, 2], [1, 2]), ([3], [3]), ([], []), ([0, 4, 5], [0, 4, 5]), ([6], [6])])
def slices_BinarySearchFunc_bits_notes_bits_Note_bits_Note_bits_notes_find_1.B5 : List Nat := [0, 0, 0, 6, 14, 0, 63, 127]
theorem slices_BinarySearchFunc_bits_notes_bits_Note_bits_Note_bits_notes_find_1.tab5 : rtab .any (opsOf Try.f131 5) = slices_BinarySearchFunc_bits_notes_bits_Note_bits_Note_bits_notes_find_1.T5 := by kernel_rfl
theorem slices_BinarySearchFunc_bits_notes_bits_Note_bits_Note_bits_notes_find_1.bits5 : waitsOk slices_BinarySearchFunc_bits_notes_bits_Note_bits_Note_bits_notes_find_1.T5.2 slices_BinarySearchFunc_bits_notes_bits_Note_bits_Note_bits_notes_find_1.B5 = true := by kernel_rfl
def slices_BinarySearchFunc_bits_notes_bits_Note_bits_Note_bits_notes_find_1.T8 : Bool × List (List Nat × List Nat) := (true, [([], []), ([], []), ([], []), ([1, 2], [1, 2]), ([3], [3]), ([4], [4]), ([4], [4]), ([4], [4]), ([6, 7, 4], [4, 6, 7]), ([8, 4], [4, 8]), ([4], [4]), ([5, 9, 10, 4, 4], [4, 5, 9, 10]), ([11, 4], [4, 11]), ([4, 12], [4, 12]), ([0, 11, 0], [0]), ([13, 14, 0, 1, 2, 3, 4, 5, 6, 7, 8, 9, 10, 11, 12, 13, 14], [13])])
def slices_BinarySearchFunc_bits_notes_bits_Note_bits_Note_bits_notes_find_1.B8 : List Nat := [0, 0, 0, 6, 14, 30, 30, 30, 222, 478, 30, 2046, 4094, 8190, 4095, 32767]
theorem slices_BinarySearchFunc_bits_notes_bits_Note_bits_Note_bits_notes_find_1.tab8 : rtab .any (opsOf Try.f131 8) = slices_BinarySearchFunc_bits_notes_bits_Note_bits_Note_bits_notes_find_1.T8 := by kernel_rfl
theorem slices_BinarySearchFunc_bits_notes_bits_Note_bits_Note_bits_notes_find_1.bits8 : waitsOk slices_BinarySearchFunc_bits_notes_bits_Note_bits_Note_bits_notes_find_1.T8.2 slices_BinarySearchFunc_bits_notes_bits_Note_bits_Note_bits_notes_find_1.B8 = true := by kernel_rfl
set_option maxHeartbeats 8000000 in
set_option maxRecDepth 100000 in
theorem slices_BinarySearchFunc_bits_notes_bits_Note_bits_Note_bits_notes_find_1.calls (k : Nat) (A0 : Option Addr) (c0 : Nat) (l0 : List (S52)) (a1_0 : Int) (a1_1 : Int) (a1_2 : Int)  (r1 : Int) (r2 : Bool) (w : World) (hr0 : Kd.C k52 w A0 l0.length l0) (hc0 : l0.length ≤ c0) (h : slices_BinarySearchFunc_bits_notes_bits_Note_bits_Note_bits_notes_find_1.f k l0 a1_0 a1_1 a1_2 = some (r1, r2)) :
  Calls Try.prog 131 #[.slice A0 l0.length c0, .agg #[.int .i64 a1_0, .int .i64 a1_1, .int .i64 a1_2], .func (.func 132) #[] #[]] w fun e w' => e = .returned (.tuple #[.int .i64 r1, .bool r2]) ∧ Below w.heap.size w w' := by
 have hu52 := Try.underlying52
 have HR0 := Aside0.mk hr0
 have HC0 := Aside0.mk hc0
 clear hr0 hc0
 have HB := Aside0.mk (Below.refl w.heap.size w)
 have H : (slices_BinarySearchFunc_bits_notes_bits_Note_bits_Note_bits_notes_find_1.l0 k l0 (l0.length : Int) 0 (l0.length : Int) a1_0 a1_1 a1_2) = some (r1, r2) := h
 clear h
 have H' := Aside0.mk H
 clear H
 go_enter Try.func131, Try.ntmps131
 go_wp2_with (first | ((with_reducible refine gate_dst (N := 4) rfl ?_); refine box_event ?hg (N := 4) ?hd (cs := #[.int .i64 a1_0, .int .i64 a1_1, .int .i64 a1_2]) (t := 52) ?hr ?_; (case hd => rfl); (case hg => rfl); (case hr => first | (go_simp; done) | (go_simp; rfl)); intro gb1 hg w4 hbox hb; have n0_ := Aside0.mk (below_step (by repeat (with_reducible first | exact HB.out | apply ba_ | apply bn_ | apply bd_)) hb); have n1_ := Aside0.mk (hbox); have n2_ := Aside0.mk ((by rw [hg]; exact (below_size (by repeat (with_reducible first | exact HB.out | apply ba_ | apply bn_ | apply bd_))) : w.heap.size ≤ gb1)); have n3_ := Aside0.mk ((by rw [hg]; exact (below_size (by repeat (with_reducible first | exact HB.out | apply ba_ | apply bn_ | apply bd_))) : w.heap.size ≤ gb1)); clear HB; have HB := n0_; have BK1 := n1_; have GW1 := n2_; have GE1 := n3_; clear n0_ n1_ n2_ n3_; clear hb hbox hg))
 go_loopg [9, 10] k (fun kq v9 v10 w' => ∃ (x9_1 : Int) (x10_1 : Int), v9 = .int .i64 x9_1 ∧ v10 = .int .i64 x10_1 ∧ Aside0 (slices_BinarySearchFunc_bits_notes_bits_Note_bits_Note_bits_notes_find_1.l0 kq l0 (l0.length : Int) x9_1 x10_1 a1_0 a1_1 a1_2 = some (r1, r2)) ∧ Aside0 (kq ≤ k) ∧ Aside0 (w'.heap[gb1]? = some (.cells #[.int .i64 a1_0, .int .i64 a1_1, .int .i64 a1_2] 52 (0, 0))) ∧ Aside0 (Below w.heap.size w w'))
 case atStart => exact ⟨(0), ((l0.length : Int)), (by first | rfl | (simp; done) | (simp [*]; done)), (by first | rfl | (simp; done) | (simp [*]; done)), H', ⟨Nat.le_refl _⟩, ⟨by (with_reducible repeat (first | refine kn_ ?_ _ | refine kd_ ?_ | refine ka_ ?_ _)); exact BK1.out⟩, ⟨by repeat (with_reducible first | exact HB.out | apply ba_ | apply bn_ | apply bd_ | refine bs_ ?_ GE1.out)⟩⟩
 case round =>
  clear H'
  try clear p2
  obtain ⟨x9_1, x10_1, rfl, rfl, HA, HK1, BK1, HB⟩ := hrel
  cases gk with
  | zero => exact absurd HA.out (by simp [slices_BinarySearchFunc_bits_notes_bits_Note_bits_Note_bits_notes_find_1.l0])
  | succ k1 =>
   have H := HA.out
   clear HA
   simp only [slices_BinarySearchFunc_bits_notes_bits_Note_bits_Note_bits_notes_find_1.l0] at H
   by_cases c5 : x9_1 < x10_1
   ·rw [if_pos c5] at H
    have c5b0 : decide (x9_1 < x10_1) = true := decide_eq_true c5
    clear c5
    obtain ⟨ji6, hji6⟩ : ∃ j_ : Int, (wrap64 ((IntKind.u64.wrap (wrap64 (x9_1 + x10_1))) / 2)) = j_ := ⟨_, rfl⟩
    replace H : (if 0 ≤ (ji6) then (if (ji6) < (l0.length : Int) then ((bits_notes_find_1.f k1 ((rd_T52 l0 (ji6)).f0) ((rd_T52 l0 (ji6)).f1) ((rd_T52 l0 (ji6)).f2) a1_0 a1_1 a1_2).bind fun t3 => (if t3 < 0 then (slices_BinarySearchFunc_bits_notes_bits_Note_bits_Note_bits_notes_find_1.l0 k1 l0 (l0.length : Int) (wrap64 ((ji6) + 1)) x10_1 a1_0 a1_1 a1_2) else (slices_BinarySearchFunc_bits_notes_bits_Note_bits_Note_bits_notes_find_1.l0 k1 l0 (l0.length : Int) x9_1 ji6 a1_0 a1_1 a1_2))) else (none)) else (none)) = some (r1, r2) := by first | (rw [hji6] at H; exact H) | (simp only [hji6] at H ⊢; exact H)
    have hji6w : (IntKind.i64.wrap ((IntKind.u64.wrap (wrap64 (x9_1 + x10_1))) / 2)) = ji6 := (i64_w _).trans hji6
    by_cases c7 : 0 ≤ (ji6)
    ·rw [if_pos c7] at H
     have c7b0 : decide (0 ≤ (ji6)) = true := decide_eq_true c7
     clear c7
     by_cases c8 : (ji6) < (l0.length : Int)
     ·rw [if_pos c8] at H
      have c8b0 : decide ((ji6) < (l0.length : Int)) = true := decide_eq_true c8
      clear c8
      replace H := Option.bind_eq_some_iff.mp H
      obtain ⟨t3, A90, H⟩ := H
      (try dsimp only at H)
      have A9 := Aside0.mk A90
      clear A90
      by_cases c10 : t3 < 0
      ·rw [if_pos c10] at H
       have c10b0 : decide (t3 < 0) = true := decide_eq_true c10
       clear c10
       have H' := Aside0.mk H
       clear H
       try go_wp2
       have n0_ := Aside0.mk (blk_drew BK1.out)
       have n1_ := Aside0.mk (below_drew1 HB.out)
       clear BK1
       clear HB
       have BK1 := n0_
       have HB := n1_
       clear n0_ n1_
       have p2 : 0 ≤ ((ji6) : Int) := of_decide_eq_true (by first | (with_reducible assumption) | assumption)
       have q2 : (ji6) < (l0.length : Int) := of_decide_eq_true (by first | (with_reducible assumption) | assumption)
       obtain ⟨ad2, e2, hx2_0, hx2_1, hx2_2⟩ := at_T52 HR0.out (ji6) p2 q2
       have hw2_2 := hx2_2
       have hw2_1 := hx2_1
       have hw2_0 := hx2_0
       cases e2
       replace hx2_0 := (HB.out.cell (World.block_lt_of_cell? w _ hx2_0)).trans hx2_0
       replace hx2_1 := (HB.out.cell (World.block_lt_of_cell? w _ hx2_1)).trans hx2_1
       replace hx2_2 := (HB.out.cell (World.block_lt_of_cell? w _ hx2_2)).trans hx2_2
       replace p2 := eq_true p2
       replace q2 := eq_true q2
       refine start_ (n := 8) (S := fun w' => w'.cell? ⟨gb1, 0, none⟩ = some (.int .i64 a1_0) ∧ w'.cell? ⟨gb1, 1, none⟩ = some (.int .i64 a1_1) ∧ w'.cell? ⟨gb1, 2, none⟩ = some (.int .i64 a1_2) ∧ w'.cell? (ad2.add (((ji6)).toNat * 3)) = some (.int .i64 ((rd_T52 l0 (ji6)).f0)) ∧ w'.cell? ⟨(ad2.add (((ji6)).toNat * 3)).block, (ad2.add (((ji6)).toNat * 3)).off + 1, none⟩ = some (.int .i64 ((rd_T52 l0 (ji6)).f1)) ∧ w'.cell? ⟨(ad2.add (((ji6)).toNat * 3)).block, (ad2.add (((ji6)).toNat * 3)).off + 2, none⟩ = some (.int .i64 ((rd_T52 l0 (ji6)).f2))) (ds := []) #[false, false, false, false, false, false, false, false] (by kernel_rfl) rfl rfl ⟨(blk_cell BK1.out 0).trans rfl, (blk_cell BK1.out 1).trans rfl, (blk_cell BK1.out 2).trans rfl, ((HB.out.cell (World.block_lt_of_cell? w _ hw2_0)).trans hw2_0), ((HB.out.cell (World.block_lt_of_cell? w _ hw2_1)).trans hw2_1), ((HB.out.cell (World.block_lt_of_cell? w _ hw2_2)).trans hw2_2)⟩ (fun hHeld => ?_); refine with_tabW slices_BinarySearchFunc_bits_notes_bits_Note_bits_Note_bits_notes_find_1.tab5 slices_BinarySearchFunc_bits_notes_bits_Note_bits_Note_bits_notes_find_1.bits5 (fun HT_ HW_ => ?_)
       generalize wr.drew = w11 at BK1 HB hx2_0 hx2_1 hx2_2 hHeld ⊢
       refine pure_ (i := 0) (N := some 24) (v := ?_) (a' := ?_) #[true, false, false, false, false, false, false, false] rfl rfl (any_of HT_.out (by kernel_rfl)) (fun _ _ _ h => h) (Or.inl ⟨by rfl, ?_⟩) ?_ ?_
       rotate_left
       ·intro w'
        go_simp
        with_reducible rfl
       rotate_left
       ·simp only [Act.put, List.setIfInBounds_toArray, List.set_cons_zero, List.set_cons_succ, i64_w, i32_w]
        rfl
       refine pure_ (i := 1) (N := some 25) (v := ?_) (a' := ?_) #[true, true, false, false, false, false, false, false] rfl rfl (any_of HT_.out (by kernel_rfl)) (fun _ _ _ h => h) (Or.inl ⟨by rfl, ?_⟩) ?_ ?_
       rotate_left
       ·intro w'
        go_simp
        with_reducible rfl
       rotate_left
       ·simp only [Act.put, List.setIfInBounds_toArray, List.set_cons_zero, List.set_cons_succ, i64_w, i32_w]
        rfl
       refine pure_ (i := 2) (N := some 26) (v := ?_) (a' := ?_) #[true, true, true, false, false, false, false, false] rfl rfl (any_of HT_.out (by kernel_rfl)) (fun _ _ _ h => h) (Or.inl ⟨by rfl, ?_⟩) ?_ ?_
       rotate_left
       ·intro w'
        go_simp
        with_reducible rfl
       rotate_left
       ·simp only [Act.put, List.setIfInBounds_toArray, List.set_cons_zero, List.set_cons_succ, i64_w, i32_w]
        rfl
       refine pure_ (i := 3) (N := some 27) (v := ?_) (a' := ?_) #[true, true, true, true, false, false, false, false] rfl rfl (any_of HT_.out (by kernel_rfl)) (fun _ _ _ h => h) (Or.inl ⟨by rfl, ?_⟩) ?_ ?_
       rotate_left
       ·intro w'
        go_simp
        with_reducible rfl
       rotate_left
       ·simp only [Act.put, List.setIfInBounds_toArray, List.set_cons_zero, List.set_cons_succ, i64_w, i32_w]
        rfl
       refine take_ (i := 4) (N := some 28) (v := ?_) (a' := ?_) #[true, true, true, true, true, false, false, false] rfl rfl (take_ofW HT_.out HW_.out (by kernel_rfl)) (fun _ _ _ h => h) (Or.inl ⟨by rfl, ?_⟩) hHeld ?_ ?_
       rotate_left
       ·rintro w' ⟨s0, s1, s2, s3, s4, s5⟩
        go_simp
        with_reducible rfl
       rotate_left
       ·simp only [Act.put, List.setIfInBounds_toArray, List.set_cons_zero, List.set_cons_succ, i64_w, i32_w]
        rfl
       refine take_ (i := 5) (N := some 29) (v := ?_) (a' := ?_) #[true, true, true, true, true, true, false, false] rfl rfl (take_ofW HT_.out HW_.out (by kernel_rfl)) (fun _ _ _ h => h) (Or.inl ⟨by rfl, ?_⟩) hHeld ?_ ?_
       rotate_left
       ·rintro w' ⟨s0, s1, s2, s3, s4, s5⟩
        go_simp
        with_reducible rfl
       rotate_left
       ·simp only [Act.put, List.setIfInBounds_toArray, List.set_cons_zero, List.set_cons_succ, i64_w, i32_w]
        rfl
       refine one_ (i := 6) (N := some 30) #[true, true, true, true, true, true, true, false] rfl rfl (one_of HT_.out (by kernel_rfl)) (by decide) (fun K hK => ?_)
       refine goesV_ Try.func132 (by kernel_rfl) rfl #[.agg #[.int .i64 ((rd_T52 l0 (ji6)).f0), .int .i64 ((rd_T52 l0 (ji6)).f1), .int .i64 ((rd_T52 l0 (ji6)).f2)], .agg #[.int .i64 a1_0, .int .i64 a1_1, .int .i64 a1_2]] (by rfl) rfl rfl (by (try simp only [List.map_toArray, List.map_cons, List.map_nil]); first | done | (simp only [hji6]; rfl) | rfl | (simp only [List.length_drop, List.length_take]; rfl)) ?_
       with_reducible refine (bits_notes_find_1.calls k1 ((rd_T52 l0 (ji6)).f0) ((rd_T52 l0 (ji6)).f1) ((rd_T52 l0 (ji6)).f2) a1_0 a1_1 a1_2 t3 _ A9.out).mono ?_
       rintro e w12 ⟨rfl, hb⟩
       refine ⟨_, rfl, ?_⟩
       have n0_ := Aside0.mk (blk_below (g := gb1) (o := .cells #[.int .i64 a1_0, .int .i64 a1_1, .int .i64 a1_2] 52 (0, 0)) (by (with_reducible repeat (first | refine kn_ ?_ _ | refine kd_ ?_ | refine ka_ ?_ _)); exact BK1.out) hb)
       have n1_ := Aside0.mk (below_step (by repeat (with_reducible first | exact HB.out | apply ba_ | apply bn_ | apply bd_ | refine bs_ ?_ GE1.out)) hb)
       clear BK1
       clear HB
       have BK1 := n0_
       have HB := n1_
       clear n0_ n1_
       clear hb
       refine hK.out _ _ ⟨(blk_cell BK1.out 0).trans rfl, (blk_cell BK1.out 1).trans rfl, (blk_cell BK1.out 2).trans rfl, ((HB.out.cell (World.block_lt_of_cell? w _ hw2_0)).trans hw2_0), ((HB.out.cell (World.block_lt_of_cell? w _ hw2_1)).trans hw2_1), ((HB.out.cell (World.block_lt_of_cell? w _ hw2_2)).trans hw2_2)⟩ (fun hHeld => ?_)
       clear hK K
       refine norm_ (a' := ?_) ?_ ?_
       rotate_left
       ·show Act.put _ (some 30) _ = _
        simp only [Act.put, List.setIfInBounds_toArray, List.set_cons_zero, List.set_cons_succ, i64_w, i32_w]
        rfl
       refine pure_ (i := 7) (N := some 31) (v := ?_) (a' := ?_) #[true, true, true, true, true, true, true, true] rfl rfl (any_of HT_.out (by kernel_rfl)) (fun _ _ _ h => h) (Or.inl ⟨by rfl, ?_⟩) ?_ ?_
       rotate_left
       ·intro w'
        go_simp
        with_reducible rfl
       rotate_left
       ·simp only [Act.put, List.setIfInBounds_toArray, List.set_cons_zero, List.set_cons_succ, i64_w, i32_w]
        rfl
       refine done_ (done_of HT_.out (by kernel_rfl)) ?_
       try go_wp2
       go_roundg k1
       case measure => have := HK1.out; omega
       case rel => exact ⟨(wrap64 ((ji6) + 1)), (x10_1), (by first | rfl | (simp; done) | (simp only [← hji6] <;> (first | rfl | simp)) | (simp [*]; done)), (by first | rfl | (simp; done) | (simp [*]; done)), H', ⟨by have := HK1.out; omega⟩, ⟨by (with_reducible repeat (first | refine kn_ ?_ _ | refine kd_ ?_ | refine ka_ ?_ _)); exact BK1.out⟩, ⟨by repeat (with_reducible first | exact HB.out | apply ba_ | apply bn_ | apply bd_ | refine bs_ ?_ GE1.out)⟩⟩
      ·rw [if_neg c10] at H
       have c10b0 : decide (t3 < 0) = false := decide_eq_false c10
       clear c10
       have H' := Aside0.mk H
       clear H
       try go_wp2
       have n0_ := Aside0.mk (blk_drew BK1.out)
       have n1_ := Aside0.mk (below_drew1 HB.out)
       clear BK1
       clear HB
       have BK1 := n0_
       have HB := n1_
       clear n0_ n1_
       have p2 : 0 ≤ ((ji6) : Int) := of_decide_eq_true (by first | (with_reducible assumption) | assumption)
       have q2 : (ji6) < (l0.length : Int) := of_decide_eq_true (by first | (with_reducible assumption) | assumption)
       obtain ⟨ad2, e2, hx2_0, hx2_1, hx2_2⟩ := at_T52 HR0.out (ji6) p2 q2
       have hw2_2 := hx2_2
       have hw2_1 := hx2_1
       have hw2_0 := hx2_0
       cases e2
       replace hx2_0 := (HB.out.cell (World.block_lt_of_cell? w _ hx2_0)).trans hx2_0
       replace hx2_1 := (HB.out.cell (World.block_lt_of_cell? w _ hx2_1)).trans hx2_1
       replace hx2_2 := (HB.out.cell (World.block_lt_of_cell? w _ hx2_2)).trans hx2_2
       replace p2 := eq_true p2
       replace q2 := eq_true q2
       refine start_ (n := 8) (S := fun w' => w'.cell? ⟨gb1, 0, none⟩ = some (.int .i64 a1_0) ∧ w'.cell? ⟨gb1, 1, none⟩ = some (.int .i64 a1_1) ∧ w'.cell? ⟨gb1, 2, none⟩ = some (.int .i64 a1_2) ∧ w'.cell? (ad2.add (((ji6)).toNat * 3)) = some (.int .i64 ((rd_T52 l0 (ji6)).f0)) ∧ w'.cell? ⟨(ad2.add (((ji6)).toNat * 3)).block, (ad2.add (((ji6)).toNat * 3)).off + 1, none⟩ = some (.int .i64 ((rd_T52 l0 (ji6)).f1)) ∧ w'.cell? ⟨(ad2.add (((ji6)).toNat * 3)).block, (ad2.add (((ji6)).toNat * 3)).off + 2, none⟩ = some (.int .i64 ((rd_T52 l0 (ji6)).f2))) (ds := []) #[false, false, false, false, false, false, false, false] (by kernel_rfl) rfl rfl ⟨(blk_cell BK1.out 0).trans rfl, (blk_cell BK1.out 1).trans rfl, (blk_cell BK1.out 2).trans rfl, ((HB.out.cell (World.block_lt_of_cell? w _ hw2_0)).trans hw2_0), ((HB.out.cell (World.block_lt_of_cell? w _ hw2_1)).trans hw2_1), ((HB.out.cell (World.block_lt_of_cell? w _ hw2_2)).trans hw2_2)⟩ (fun hHeld => ?_); refine with_tabW slices_BinarySearchFunc_bits_notes_bits_Note_bits_Note_bits_notes_find_1.tab5 slices_BinarySearchFunc_bits_notes_bits_Note_bits_Note_bits_notes_find_1.bits5 (fun HT_ HW_ => ?_)
       generalize wr.drew = w13 at BK1 HB hx2_0 hx2_1 hx2_2 hHeld ⊢
       refine pure_ (i := 0) (N := some 24) (v := ?_) (a' := ?_) #[true, false, false, false, false, false, false, false] rfl rfl (any_of HT_.out (by kernel_rfl)) (fun _ _ _ h => h) (Or.inl ⟨by rfl, ?_⟩) ?_ ?_
       rotate_left
       ·intro w'
        go_simp
        with_reducible rfl
       rotate_left
       ·simp only [Act.put, List.setIfInBounds_toArray, List.set_cons_zero, List.set_cons_succ, i64_w, i32_w]
        rfl
       refine pure_ (i := 1) (N := some 25) (v := ?_) (a' := ?_) #[true, true, false, false, false, false, false, false] rfl rfl (any_of HT_.out (by kernel_rfl)) (fun _ _ _ h => h) (Or.inl ⟨by rfl, ?_⟩) ?_ ?_
       rotate_left
       ·intro w'
        go_simp
        with_reducible rfl
       rotate_left
       ·simp only [Act.put, List.setIfInBounds_toArray, List.set_cons_zero, List.set_cons_succ, i64_w, i32_w]
        rfl
       refine pure_ (i := 2) (N := some 26) (v := ?_) (a' := ?_) #[true, true, true, false, false, false, false, false] rfl rfl (any_of HT_.out (by kernel_rfl)) (fun _ _ _ h => h) (Or.inl ⟨by rfl, ?_⟩) ?_ ?_
       rotate_left
       ·intro w'
        go_simp
        with_reducible rfl
       rotate_left
       ·simp only [Act.put, List.setIfInBounds_toArray, List.set_cons_zero, List.set_cons_succ, i64_w, i32_w]
        rfl
       refine pure_ (i := 3) (N := some 27) (v := ?_) (a' := ?_) #[true, true, true, true, false, false, false, false] rfl rfl (any_of HT_.out (by kernel_rfl)) (fun _ _ _ h => h) (Or.inl ⟨by rfl, ?_⟩) ?_ ?_
       rotate_left
       ·intro w'
        go_simp
        with_reducible rfl
       rotate_left
       ·simp only [Act.put, List.setIfInBounds_toArray, List.set_cons_zero, List.set_cons_succ, i64_w, i32_w]
        rfl
       refine take_ (i := 4) (N := some 28) (v := ?_) (a' := ?_) #[true, true, true, true, true, false, false, false] rfl rfl (take_ofW HT_.out HW_.out (by kernel_rfl)) (fun _ _ _ h => h) (Or.inl ⟨by rfl, ?_⟩) hHeld ?_ ?_
       rotate_left
       ·rintro w' ⟨s0, s1, s2, s3, s4, s5⟩
        go_simp
        with_reducible rfl
       rotate_left
       ·simp only [Act.put, List.setIfInBounds_toArray, List.set_cons_zero, List.set_cons_succ, i64_w, i32_w]
        rfl
       refine take_ (i := 5) (N := some 29) (v := ?_) (a' := ?_) #[true, true, true, true, true, true, false, false] rfl rfl (take_ofW HT_.out HW_.out (by kernel_rfl)) (fun _ _ _ h => h) (Or.inl ⟨by rfl, ?_⟩) hHeld ?_ ?_
       rotate_left
       ·rintro w' ⟨s0, s1, s2, s3, s4, s5⟩
        go_simp
        with_reducible rfl
       rotate_left
       ·simp only [Act.put, List.setIfInBounds_toArray, List.set_cons_zero, List.set_cons_succ, i64_w, i32_w]
        rfl
       refine one_ (i := 6) (N := some 30) #[true, true, true, true, true, true, true, false] rfl rfl (one_of HT_.out (by kernel_rfl)) (by decide) (fun K hK => ?_)
       refine goesV_ Try.func132 (by kernel_rfl) rfl #[.agg #[.int .i64 ((rd_T52 l0 (ji6)).f0), .int .i64 ((rd_T52 l0 (ji6)).f1), .int .i64 ((rd_T52 l0 (ji6)).f2)], .agg #[.int .i64 a1_0, .int .i64 a1_1, .int .i64 a1_2]] (by rfl) rfl rfl (by (try simp only [List.map_toArray, List.map_cons, List.map_nil]); first | done | (simp only [hji6]; rfl) | rfl | (simp only [List.length_drop, List.length_take]; rfl)) ?_
       with_reducible refine (bits_notes_find_1.calls k1 ((rd_T52 l0 (ji6)).f0) ((rd_T52 l0 (ji6)).f1) ((rd_T52 l0 (ji6)).f2) a1_0 a1_1 a1_2 t3 _ A9.out).mono ?_
       rintro e w14 ⟨rfl, hb⟩
       refine ⟨_, rfl, ?_⟩
       have n0_ := Aside0.mk (blk_below (g := gb1) (o := .cells #[.int .i64 a1_0, .int .i64 a1_1, .int .i64 a1_2] 52 (0, 0)) (by (with_reducible repeat (first | refine kn_ ?_ _ | refine kd_ ?_ | refine ka_ ?_ _)); exact BK1.out) hb)
       have n1_ := Aside0.mk (below_step (by repeat (with_reducible first | exact HB.out | apply ba_ | apply bn_ | apply bd_ | refine bs_ ?_ GE1.out)) hb)
       clear BK1
       clear HB
       have BK1 := n0_
       have HB := n1_
       clear n0_ n1_
       clear hb
       refine hK.out _ _ ⟨(blk_cell BK1.out 0).trans rfl, (blk_cell BK1.out 1).trans rfl, (blk_cell BK1.out 2).trans rfl, ((HB.out.cell (World.block_lt_of_cell? w _ hw2_0)).trans hw2_0), ((HB.out.cell (World.block_lt_of_cell? w _ hw2_1)).trans hw2_1), ((HB.out.cell (World.block_lt_of_cell? w _ hw2_2)).trans hw2_2)⟩ (fun hHeld => ?_)
       clear hK K
       refine norm_ (a' := ?_) ?_ ?_
       rotate_left
       ·show Act.put _ (some 30) _ = _
        simp only [Act.put, List.setIfInBounds_toArray, List.set_cons_zero, List.set_cons_succ, i64_w, i32_w]
        rfl
       refine pure_ (i := 7) (N := some 31) (v := ?_) (a' := ?_) #[true, true, true, true, true, true, true, true] rfl rfl (any_of HT_.out (by kernel_rfl)) (fun _ _ _ h => h) (Or.inl ⟨by rfl, ?_⟩) ?_ ?_
       rotate_left
       ·intro w'
        go_simp
        with_reducible rfl
       rotate_left
       ·simp only [Act.put, List.setIfInBounds_toArray, List.set_cons_zero, List.set_cons_succ, i64_w, i32_w]
        rfl
       refine done_ (done_of HT_.out (by kernel_rfl)) ?_
       try go_wp2
       go_roundg k1
       case measure => have := HK1.out; omega
       case rel => exact ⟨(x9_1), (ji6), (by first | rfl | (simp; done) | (simp [*]; done)), (by first | rfl | (simp; done) | (simp only [← hji6] <;> (first | rfl | simp)) | (simp [*]; done)), H', ⟨by have := HK1.out; omega⟩, ⟨by (with_reducible repeat (first | refine kn_ ?_ _ | refine kd_ ?_ | refine ka_ ?_ _)); exact BK1.out⟩, ⟨by repeat (with_reducible first | exact HB.out | apply ba_ | apply bn_ | apply bd_ | refine bs_ ?_ GE1.out)⟩⟩
     ·rw [if_neg c8] at H
      exact absurd H (by simp)
    ·rw [if_neg c7] at H
     exact absurd H (by simp)
   ·rw [if_neg c5] at H
    have c5b0 : decide (x9_1 < x10_1) = false := decide_eq_false c5
    clear c5
    by_cases c15 : x9_1 < (l0.length : Int)
    ·rw [if_pos c15] at H
     have c15b0 : decide (x9_1 < (l0.length : Int)) = true := decide_eq_true c15
     clear c15
     by_cases c16 : 0 ≤ x9_1
     ·rw [if_pos c16] at H
      have c16b0 : decide (0 ≤ x9_1) = true := decide_eq_true c16
      clear c16
      by_cases c17 : x9_1 < (l0.length : Int)
      ·rw [if_pos c17] at H
       have c17b0 : decide (x9_1 < (l0.length : Int)) = true := decide_eq_true c17
       clear c17
       replace H := Option.bind_eq_some_iff.mp H
       obtain ⟨t5, A180, H⟩ := H
       (try dsimp only at H)
       have A18 := Aside0.mk A180
       clear A180
       simp only [Option.some.injEq, Prod.mk.injEq] at H
       obtain ⟨rfl, rfl⟩ := H
       try go_wp2
       have n0_ := Aside0.mk (blk_drew BK1.out)
       have n1_ := Aside0.mk (below_drew1 HB.out)
       clear BK1
       clear HB
       have BK1 := n0_
       have HB := n1_
       clear n0_ n1_
       have p4 : 0 ≤ (x9_1 : Int) := of_decide_eq_true (by first | (with_reducible assumption) | assumption)
       have q4 : x9_1 < (l0.length : Int) := of_decide_eq_true (by first | (with_reducible assumption) | assumption)
       obtain ⟨ad4, e4, hx4_0, hx4_1, hx4_2⟩ := at_T52 HR0.out x9_1 p4 q4
       have hw4_2 := hx4_2
       have hw4_1 := hx4_1
       have hw4_0 := hx4_0
       cases e4
       replace hx4_0 := (HB.out.cell (World.block_lt_of_cell? w _ hx4_0)).trans hx4_0
       replace hx4_1 := (HB.out.cell (World.block_lt_of_cell? w _ hx4_1)).trans hx4_1
       replace hx4_2 := (HB.out.cell (World.block_lt_of_cell? w _ hx4_2)).trans hx4_2
       replace p4 := eq_true p4
       replace q4 := eq_true q4
       refine start_ (n := 16) (S := fun w' => w'.cell? ⟨gb1, 0, none⟩ = some (.int .i64 a1_0) ∧ w'.cell? ⟨gb1, 1, none⟩ = some (.int .i64 a1_1) ∧ w'.cell? ⟨gb1, 2, none⟩ = some (.int .i64 a1_2) ∧ w'.cell? (ad4.add ((x9_1).toNat * 3)) = some (.int .i64 ((rd_T52 l0 x9_1).f0)) ∧ w'.cell? ⟨(ad4.add ((x9_1).toNat * 3)).block, (ad4.add ((x9_1).toNat * 3)).off + 1, none⟩ = some (.int .i64 ((rd_T52 l0 x9_1).f1)) ∧ w'.cell? ⟨(ad4.add ((x9_1).toNat * 3)).block, (ad4.add ((x9_1).toNat * 3)).off + 2, none⟩ = some (.int .i64 ((rd_T52 l0 x9_1).f2))) (ds := []) #[false, false, false, false, false, false, false, false, false, false, false, false, false, false, false, false] (by kernel_rfl) rfl rfl ⟨(blk_cell BK1.out 0).trans rfl, (blk_cell BK1.out 1).trans rfl, (blk_cell BK1.out 2).trans rfl, ((HB.out.cell (World.block_lt_of_cell? w _ hw4_0)).trans hw4_0), ((HB.out.cell (World.block_lt_of_cell? w _ hw4_1)).trans hw4_1), ((HB.out.cell (World.block_lt_of_cell? w _ hw4_2)).trans hw4_2)⟩ (fun hHeld => ?_); refine with_tabW slices_BinarySearchFunc_bits_notes_bits_Note_bits_Note_bits_notes_find_1.tab8 slices_BinarySearchFunc_bits_notes_bits_Note_bits_Note_bits_notes_find_1.bits8 (fun HT_ HW_ => ?_)
       generalize wr.drew = w19 at BK1 HB hx4_0 hx4_1 hx4_2 hHeld ⊢
       refine pure_ (i := 0) (N := some 35) (v := ?_) (a' := ?_) #[true, false, false, false, false, false, false, false, false, false, false, false, false, false, false, false] rfl rfl (any_of HT_.out (by kernel_rfl)) (fun _ _ _ h => h) (Or.inl ⟨by rfl, ?_⟩) ?_ ?_
       rotate_left
       ·intro w'
        go_simp
        with_reducible rfl
       rotate_left
       ·simp only [Act.put, List.setIfInBounds_toArray, List.set_cons_zero, List.set_cons_succ, i64_w, i32_w]
        rfl
       refine pure_ (i := 1) (N := some 36) (v := ?_) (a' := ?_) #[true, true, false, false, false, false, false, false, false, false, false, false, false, false, false, false] rfl rfl (any_of HT_.out (by kernel_rfl)) (fun _ _ _ h => h) (Or.inl ⟨by rfl, ?_⟩) ?_ ?_
       rotate_left
       ·intro w'
        go_simp
        with_reducible rfl
       rotate_left
       ·simp only [Act.put, List.setIfInBounds_toArray, List.set_cons_zero, List.set_cons_succ, i64_w, i32_w]
        rfl
       refine pure_ (i := 2) (N := some 37) (v := ?_) (a' := ?_) #[true, true, true, false, false, false, false, false, false, false, false, false, false, false, false, false] rfl rfl (any_of HT_.out (by kernel_rfl)) (fun _ _ _ h => h) (Or.inl ⟨by rfl, ?_⟩) ?_ ?_
       rotate_left
       ·intro w'
        go_simp
        with_reducible rfl
       rotate_left
       ·simp only [Act.put, List.setIfInBounds_toArray, List.set_cons_zero, List.set_cons_succ, i64_w, i32_w]
        rfl
       refine pure_ (i := 3) (N := some 38) (v := ?_) (a' := ?_) #[true, true, true, true, false, false, false, false, false, false, false, false, false, false, false, false] rfl rfl (any_of HT_.out (by kernel_rfl)) (fun _ _ _ h => h) (Or.inl ⟨by rfl, ?_⟩) ?_ ?_
       rotate_left
       ·intro w'
        go_simp
        with_reducible rfl
       rotate_left
       ·simp only [Act.put, List.setIfInBounds_toArray, List.set_cons_zero, List.set_cons_succ, i64_w, i32_w]
        rfl
       refine pure_ (i := 4) (N := some 39) (v := ?_) (a' := ?_) #[true, true, true, true, true, false, false, false, false, false, false, false, false, false, false, false] rfl rfl (any_of HT_.out (by kernel_rfl)) (fun _ _ _ h => h) (Or.inl ⟨by rfl, ?_⟩) ?_ ?_
       rotate_left
       ·intro w'
        go_simp
        with_reducible rfl
       rotate_left
       ·simp only [Act.put, List.setIfInBounds_toArray, List.set_cons_zero, List.set_cons_succ, i64_w, i32_w]
        rfl
       refine pure_ (i := 5) (N := some 40) (v := ?_) (a' := ?_) #[true, true, true, true, true, true, false, false, false, false, false, false, false, false, false, false] rfl rfl (any_of HT_.out (by kernel_rfl)) (fun _ _ _ h => h) (Or.inl ⟨by rfl, ?_⟩) ?_ ?_
       rotate_left
       ·intro w'
        go_simp
        with_reducible rfl
       rotate_left
       ·simp only [Act.put, List.setIfInBounds_toArray, List.set_cons_zero, List.set_cons_succ, i64_w, i32_w]
        rfl
       refine pure_ (i := 6) (N := some 41) (v := ?_) (a' := ?_) #[true, true, true, true, true, true, true, false, false, false, false, false, false, false, false, false] rfl rfl (any_of HT_.out (by kernel_rfl)) (fun _ _ _ h => h) (Or.inl ⟨by rfl, ?_⟩) ?_ ?_
       rotate_left
       ·intro w'
        go_simp
        with_reducible rfl
       rotate_left
       ·simp only [Act.put, List.setIfInBounds_toArray, List.set_cons_zero, List.set_cons_succ, i64_w, i32_w]
        rfl
       refine pure_ (i := 7) (N := some 42) (v := ?_) (a' := ?_) #[true, true, true, true, true, true, true, true, false, false, false, false, false, false, false, false] rfl rfl (any_of HT_.out (by kernel_rfl)) (fun _ _ _ h => h) (Or.inl ⟨by rfl, ?_⟩) ?_ ?_
       rotate_left
       ·intro w'
        go_simp
        with_reducible rfl
       rotate_left
       ·simp only [Act.put, List.setIfInBounds_toArray, List.set_cons_zero, List.set_cons_succ, i64_w, i32_w]
        rfl
       refine pure_ (i := 8) (N := some 43) (v := ?_) (a' := ?_) #[true, true, true, true, true, true, true, true, true, false, false, false, false, false, false, false] rfl rfl (any_of HT_.out (by kernel_rfl)) (fun _ _ _ h => h) (Or.inl ⟨by rfl, ?_⟩) ?_ ?_
       rotate_left
       ·intro w'
        go_simp
        with_reducible rfl
       rotate_left
       ·simp only [Act.put, List.setIfInBounds_toArray, List.set_cons_zero, List.set_cons_succ, i64_w, i32_w]
        rfl
       refine take_ (i := 9) (N := some 44) (v := ?_) (a' := ?_) #[true, true, true, true, true, true, true, true, true, true, false, false, false, false, false, false] rfl rfl (take_ofW HT_.out HW_.out (by kernel_rfl)) (fun _ _ _ h => h) (Or.inl ⟨by rfl, ?_⟩) hHeld ?_ ?_
       rotate_left
       ·rintro w' ⟨s0, s1, s2, s3, s4, s5⟩
        go_simp
        with_reducible rfl
       rotate_left
       ·simp only [Act.put, List.setIfInBounds_toArray, List.set_cons_zero, List.set_cons_succ, i64_w, i32_w]
        rfl
       refine take_ (i := 10) (N := some 45) (v := ?_) (a' := ?_) #[true, true, true, true, true, true, true, true, true, true, true, false, false, false, false, false] rfl rfl (take_ofW HT_.out HW_.out (by kernel_rfl)) (fun _ _ _ h => h) (Or.inl ⟨by rfl, ?_⟩) hHeld ?_ ?_
       rotate_left
       ·rintro w' ⟨s0, s1, s2, s3, s4, s5⟩
        go_simp
        with_reducible rfl
       rotate_left
       ·simp only [Act.put, List.setIfInBounds_toArray, List.set_cons_zero, List.set_cons_succ, i64_w, i32_w]
        rfl
       refine one_ (i := 11) (N := some 46) #[true, true, true, true, true, true, true, true, true, true, true, true, false, false, false, false] rfl rfl (one_of HT_.out (by kernel_rfl)) (by decide) (fun K hK => ?_)
       refine goesV_ Try.func132 (by kernel_rfl) rfl #[.agg #[.int .i64 ((rd_T52 l0 x9_1).f0), .int .i64 ((rd_T52 l0 x9_1).f1), .int .i64 ((rd_T52 l0 x9_1).f2)], .agg #[.int .i64 a1_0, .int .i64 a1_1, .int .i64 a1_2]] (by rfl) rfl rfl (by (try simp only [List.map_toArray, List.map_cons, List.map_nil]); first | done | rfl | (simp only [List.length_drop, List.length_take]; rfl)) ?_
       with_reducible refine (bits_notes_find_1.calls k1 ((rd_T52 l0 x9_1).f0) ((rd_T52 l0 x9_1).f1) ((rd_T52 l0 x9_1).f2) a1_0 a1_1 a1_2 t5 _ A18.out).mono ?_
       rintro e w20 ⟨rfl, hb⟩
       refine ⟨_, rfl, ?_⟩
       have n0_ := Aside0.mk (blk_below (g := gb1) (o := .cells #[.int .i64 a1_0, .int .i64 a1_1, .int .i64 a1_2] 52 (0, 0)) (by (with_reducible repeat (first | refine kn_ ?_ _ | refine kd_ ?_ | refine ka_ ?_ _)); exact BK1.out) hb)
       have n1_ := Aside0.mk (below_step (by repeat (with_reducible first | exact HB.out | apply ba_ | apply bn_ | apply bd_ | refine bs_ ?_ GE1.out)) hb)
       clear BK1
       clear HB
       have BK1 := n0_
       have HB := n1_
       clear n0_ n1_
       clear hb
       refine hK.out _ _ ⟨(blk_cell BK1.out 0).trans rfl, (blk_cell BK1.out 1).trans rfl, (blk_cell BK1.out 2).trans rfl, ((HB.out.cell (World.block_lt_of_cell? w _ hw4_0)).trans hw4_0), ((HB.out.cell (World.block_lt_of_cell? w _ hw4_1)).trans hw4_1), ((HB.out.cell (World.block_lt_of_cell? w _ hw4_2)).trans hw4_2)⟩ (fun hHeld => ?_)
       clear hK K
       refine norm_ (a' := ?_) ?_ ?_
       rotate_left
       ·show Act.put _ (some 46) _ = _
        simp only [Act.put, List.setIfInBounds_toArray, List.set_cons_zero, List.set_cons_succ, i64_w, i32_w]
        rfl
       refine pure_ (i := 12) (N := some 47) (v := ?_) (a' := ?_) #[true, true, true, true, true, true, true, true, true, true, true, true, true, false, false, false] rfl rfl (any_of HT_.out (by kernel_rfl)) (fun _ _ _ h => h) (Or.inl ⟨by rfl, ?_⟩) ?_ ?_
       rotate_left
       ·intro w'
        go_simp
        with_reducible rfl
       rotate_left
       ·simp only [Act.put, List.setIfInBounds_toArray, List.set_cons_zero, List.set_cons_succ, i64_w, i32_w]
        rfl
       refine pure_ (i := 13) (N := some 48) (v := ?_) (a' := ?_) #[true, true, true, true, true, true, true, true, true, true, true, true, true, true, false, false] rfl rfl (any_of HT_.out (by kernel_rfl)) (fun _ _ _ h => h) (Or.inl ⟨by rfl, ?_⟩) ?_ ?_
       rotate_left
       ·intro w'
        go_simp
        with_reducible rfl
       rotate_left
       ·simp only [Act.put, List.setIfInBounds_toArray, List.set_cons_zero, List.set_cons_succ, i64_w, i32_w]
        rfl
       refine pure_ (i := 14) (N := some 6) (v := ?_) (a' := ?_) #[true, true, true, true, true, true, true, true, true, true, true, true, true, true, true, false] rfl rfl (any_of HT_.out (by kernel_rfl)) (fun _ _ _ h => h) (Or.inl ⟨by rfl, ?_⟩) ?_ ?_
       rotate_left
       ·intro w'
        go_simp
        with_reducible rfl
       rotate_left
       ·simp only [Act.put, List.setIfInBounds_toArray, List.set_cons_zero, List.set_cons_succ, i64_w, i32_w]
        rfl
       refine pure_ (i := 15) (N := some 7) (v := ?_) (a' := ?_) #[true, true, true, true, true, true, true, true, true, true, true, true, true, true, true, true] rfl rfl (any_of HT_.out (by kernel_rfl)) (fun _ _ _ h => h) (Or.inl ⟨by rfl, ?_⟩) ?_ ?_
       rotate_left
       ·intro w'
        go_simp
        with_reducible rfl
       rotate_left
       ·simp only [Act.put, List.setIfInBounds_toArray, List.set_cons_zero, List.set_cons_succ, i64_w, i32_w]
        rfl
       refine done_ (done_of HT_.out (by kernel_rfl)) ?_
       try go_wp2
       go_ret2
       exact ⟨by first | rfl | (simp [errW_none, errW_some] <;> rfl) | (simp [*, errW_none, errW_some] <;> rfl), by repeat (with_reducible first | exact HB.out | apply ba_ | apply bn_ | apply bd_ | refine bs_ ?_ GE1.out)⟩
      ·rw [if_neg c17] at H
       exact absurd H (by simp)
     ·rw [if_neg c16] at H
      exact absurd H (by simp)
    ·rw [if_neg c15] at H
     have c15b0 : decide (x9_1 < (l0.length : Int)) = false := decide_eq_false c15
     clear c15
     simp only [Option.some.injEq, Prod.mk.injEq] at H
     obtain ⟨rfl, rfl⟩ := H
     try go_wp2
     have n0_ := Aside0.mk (blk_drew BK1.out)
     have n1_ := Aside0.mk (below_drew1 HB.out)
     clear BK1
     clear HB
     have BK1 := n0_
     have HB := n1_
     clear n0_ n1_
     refine start_ (n := 16) (S := fun w' => True) (ds := []) #[false, false, false, false, false, false, false, false, false, false, false, false, false, false, false, false] (by kernel_rfl) rfl rfl trivial (fun hHeld => ?_); refine with_tabW slices_BinarySearchFunc_bits_notes_bits_Note_bits_Note_bits_notes_find_1.tab8 slices_BinarySearchFunc_bits_notes_bits_Note_bits_Note_bits_notes_find_1.bits8 (fun HT_ HW_ => ?_)
     generalize wr.drew = w21 at BK1 HB hHeld ⊢
     refine pure_ (i := 0) (N := some 35) (v := ?_) (a' := ?_) #[true, false, false, false, false, false, false, false, false, false, false, false, false, false, false, false] rfl rfl (any_of HT_.out (by kernel_rfl)) (fun _ _ _ h => h) (Or.inl ⟨by rfl, ?_⟩) ?_ ?_
     rotate_left
     ·intro w'
      go_simp
      with_reducible rfl
     rotate_left
     ·simp only [Act.put, List.setIfInBounds_toArray, List.set_cons_zero, List.set_cons_succ, i64_w, i32_w]
      rfl
     refine pure_ (i := 1) (N := some 36) (v := ?_) (a' := ?_) #[true, true, false, false, false, false, false, false, false, false, false, false, false, false, false, false] rfl rfl (any_of HT_.out (by kernel_rfl)) (fun _ _ _ h => h) (Or.inl ⟨by rfl, ?_⟩) ?_ ?_
     rotate_left
     ·intro w'
      go_simp
      with_reducible rfl
     rotate_left
     ·simp only [Act.put, List.setIfInBounds_toArray, List.set_cons_zero, List.set_cons_succ, i64_w, i32_w]
      rfl
     refine pure_ (i := 2) (N := some 37) (v := ?_) (a' := ?_) #[true, true, true, false, false, false, false, false, false, false, false, false, false, false, false, false] rfl rfl (any_of HT_.out (by kernel_rfl)) (fun _ _ _ h => h) (Or.inl ⟨by rfl, ?_⟩) ?_ ?_
     rotate_left
     ·intro w'
      go_simp
      with_reducible rfl
     rotate_left
     ·simp only [Act.put, List.setIfInBounds_toArray, List.set_cons_zero, List.set_cons_succ, i64_w, i32_w]
      rfl
     refine pure_ (i := 3) (N := some 38) (v := ?_) (a' := ?_) #[true, true, true, true, false, false, false, false, false, false, false, false, false, false, false, false] rfl rfl (any_of HT_.out (by kernel_rfl)) (fun _ _ _ h => h) (Or.inl ⟨by rfl, ?_⟩) ?_ ?_
     rotate_left
     ·intro w'
      go_simp
      with_reducible rfl
     rotate_left
     ·simp only [Act.put, List.setIfInBounds_toArray, List.set_cons_zero, List.set_cons_succ, i64_w, i32_w]
      rfl
     refine pure_ (i := 4) (N := some 39) (v := ?_) (a' := ?_) #[true, true, true, true, true, false, false, false, false, false, false, false, false, false, false, false] rfl rfl (any_of HT_.out (by kernel_rfl)) (fun _ _ _ h => h) (Or.inl ⟨by rfl, ?_⟩) ?_ ?_
     rotate_left
     ·intro w'
      go_simp
      with_reducible rfl
     rotate_left
     ·simp only [Act.put, List.setIfInBounds_toArray, List.set_cons_zero, List.set_cons_succ, i64_w, i32_w]
      rfl
     refine pure_ (i := 5) (N := some 40) (v := undef) (a' := ?_) #[true, true, true, true, true, true, false, false, false, false, false, false, false, false, false, false] rfl rfl (any_of HT_.out (by kernel_rfl)) (fun _ _ _ h => h) (Or.inr ⟨by rfl, rfl⟩) ?_ ?_
     rotate_left
     ·simp only [Act.put, List.setIfInBounds_toArray, List.set_cons_zero, List.set_cons_succ, i64_w, i32_w]
      rfl
     refine pure_ (i := 6) (N := some 41) (v := undef) (a' := ?_) #[true, true, true, true, true, true, true, false, false, false, false, false, false, false, false, false] rfl rfl (any_of HT_.out (by kernel_rfl)) (fun _ _ _ h => h) (Or.inr ⟨by rfl, rfl⟩) ?_ ?_
     rotate_left
     ·simp only [Act.put, List.setIfInBounds_toArray, List.set_cons_zero, List.set_cons_succ, i64_w, i32_w]
      rfl
     refine pure_ (i := 7) (N := some 42) (v := undef) (a' := ?_) #[true, true, true, true, true, true, true, true, false, false, false, false, false, false, false, false] rfl rfl (any_of HT_.out (by kernel_rfl)) (fun _ _ _ h => h) (Or.inr ⟨by rfl, rfl⟩) ?_ ?_
     rotate_left
     ·simp only [Act.put, List.setIfInBounds_toArray, List.set_cons_zero, List.set_cons_succ, i64_w, i32_w]
      rfl
     refine pure_ (i := 8) (N := some 43) (v := undef) (a' := ?_) #[true, true, true, true, true, true, true, true, true, false, false, false, false, false, false, false] rfl rfl (any_of HT_.out (by kernel_rfl)) (fun _ _ _ h => h) (Or.inr ⟨by rfl, rfl⟩) ?_ ?_
     rotate_left
     ·simp only [Act.put, List.setIfInBounds_toArray, List.set_cons_zero, List.set_cons_succ, i64_w, i32_w]
      rfl
     refine pure_ (i := 9) (N := some 44) (v := undef) (a' := ?_) #[true, true, true, true, true, true, true, true, true, true, false, false, false, false, false, false] rfl rfl (any_of HT_.out (by kernel_rfl)) (fun _ _ _ h => h) (Or.inr ⟨by rfl, rfl⟩) ?_ ?_
     rotate_left
     ·simp only [Act.put, List.setIfInBounds_toArray, List.set_cons_zero, List.set_cons_succ, i64_w, i32_w]
      rfl
     refine pure_ (i := 10) (N := some 45) (v := undef) (a' := ?_) #[true, true, true, true, true, true, true, true, true, true, true, false, false, false, false, false] rfl rfl (any_of HT_.out (by kernel_rfl)) (fun _ _ _ h => h) (Or.inr ⟨by rfl, rfl⟩) ?_ ?_
     rotate_left
     ·simp only [Act.put, List.setIfInBounds_toArray, List.set_cons_zero, List.set_cons_succ, i64_w, i32_w]
      rfl
     refine pure_ (i := 11) (N := some 46) (v := undef) (a' := ?_) #[true, true, true, true, true, true, true, true, true, true, true, true, false, false, false, false] rfl rfl (any_of HT_.out (by kernel_rfl)) (fun _ _ _ h => h) (Or.inr ⟨by rfl, rfl⟩) ?_ ?_
     rotate_left
     ·simp only [Act.put, List.setIfInBounds_toArray, List.set_cons_zero, List.set_cons_succ, i64_w, i32_w]
      rfl
     refine pure_ (i := 12) (N := some 47) (v := undef) (a' := ?_) #[true, true, true, true, true, true, true, true, true, true, true, true, true, false, false, false] rfl rfl (any_of HT_.out (by kernel_rfl)) (fun _ _ _ h => h) (Or.inr ⟨by rfl, rfl⟩) ?_ ?_
     rotate_left
     ·simp only [Act.put, List.setIfInBounds_toArray, List.set_cons_zero, List.set_cons_succ, i64_w, i32_w]
      rfl
     refine pure_ (i := 13) (N := some 48) (v := ?_) (a' := ?_) #[true, true, true, true, true, true, true, true, true, true, true, true, true, true, false, false] rfl rfl (any_of HT_.out (by kernel_rfl)) (fun _ _ _ h => h) (Or.inl ⟨by rfl, ?_⟩) ?_ ?_
     rotate_left
     ·intro w'
      go_simp
      with_reducible rfl
     rotate_left
     ·simp only [Act.put, List.setIfInBounds_toArray, List.set_cons_zero, List.set_cons_succ, i64_w, i32_w]
      rfl
     refine pure_ (i := 14) (N := some 6) (v := ?_) (a' := ?_) #[true, true, true, true, true, true, true, true, true, true, true, true, true, true, true, false] rfl rfl (any_of HT_.out (by kernel_rfl)) (fun _ _ _ h => h) (Or.inl ⟨by rfl, ?_⟩) ?_ ?_
     rotate_left
     ·intro w'
      go_simp
      with_reducible rfl
     rotate_left
     ·simp only [Act.put, List.setIfInBounds_toArray, List.set_cons_zero, List.set_cons_succ, i64_w, i32_w]
      rfl
     refine pure_ (i := 15) (N := some 7) (v := ?_) (a' := ?_) #[true, true, true, true, true, true, true, true, true, true, true, true, true, true, true, true] rfl rfl (any_of HT_.out (by kernel_rfl)) (fun _ _ _ h => h) (Or.inl ⟨by rfl, ?_⟩) ?_ ?_
     rotate_left
     ·intro w'
      go_simp
      with_reducible rfl
     rotate_left
     ·simp only [Act.put, List.setIfInBounds_toArray, List.set_cons_zero, List.set_cons_succ, i64_w, i32_w]
      rfl
     refine done_ (done_of HT_.out (by kernel_rfl)) ?_
     try go_wp2
     go_ret2
     exact ⟨by first | rfl | (simp [errW_none, errW_some] <;> rfl) | (simp [*, errW_none, errW_some] <;> rfl), by repeat (with_reducible first | exact HB.out | apply ba_ | apply bn_ | apply bd_ | refine bs_ ?_ GE1.out)⟩
def bits_notes_find.f (k : Nat) (l0 : List (S52)) (a1 : Int) (a2 : Int) : Option (Int × Bool) := (slices_BinarySearchFunc_bits_notes_bits_Note_bits_Note_bits_notes_find_1.f k l0 a1 a2 0).bind fun bt1 => (some (bt1.1, bt1.2))
set_option maxHeartbeats 8000000 in
set_option maxRecDepth 100000 in
theorem bits_notes_find.calls (k : Nat) (A0 : Option Addr) (c0 : Nat) (l0 : List (S52)) (a1 : Int) (a2 : Int) (r1 : Int) (r2 : Bool) (w : World) (hr0 : Kd.C k52 w A0 l0.length l0) (hc0 : l0.length ≤ c0) (h : bits_notes_find.f k l0 a1 a2 = some (r1, r2)) :
  Calls Try.prog 88 #[.slice A0 l0.length c0, .int .i64 a1, .int .i64 a2] w fun e w' => e = .returned (.tuple #[.int .i64 r1, .bool r2]) ∧ Below w.heap.size w w' := by
 have hu52 := Try.underlying52
 have HR0 := Aside0.mk hr0
 have HC0 := Aside0.mk hc0
 clear hr0 hc0
 have HB := Aside0.mk (Below.refl w.heap.size w)
 have H : ((slices_BinarySearchFunc_bits_notes_bits_Note_bits_Note_bits_notes_find_1.f k l0 a1 a2 0).bind fun bt1 => (some (bt1.1, bt1.2))) = some (r1, r2) := h
 clear h
 replace H := Option.bind_eq_some_iff.mp H
 obtain ⟨⟨t1, t2⟩, A40, H⟩ := H
 (try dsimp only at H)
 have A4 := Aside0.mk A40
 clear A40
 simp only [Option.some.injEq, Prod.mk.injEq] at H
 obtain ⟨rfl, rfl⟩ := H
 go_enter Try.func88, Try.ntmps88
 go_wp2_with (first | ((with_reducible refine gate_callee (f := 131) rfl ?_); refine goesM_ (some 12) Try.func131 #[.slice A0 l0.length c0, .agg #[.int .i64 a1, .int .i64 a2, .int .i64 0], .func (.func 132) #[] #[]] ?_; (with_reducible refine (slices_BinarySearchFunc_bits_notes_bits_Note_bits_Note_bits_notes_find_1.calls k _ _ l0 a1 a2 0  t1 t2 _ ?side1 ?side2 A4.out).mono ?_); (case side1 => repeat (first | exact HR0.out | (with_reducible refine ca_ ?_ _) | (with_reducible refine cn_ ?_ _) | (with_reducible refine cd_ ?_))); (case side2 => exact HC0.out); rintro e w5 ⟨rfl, hb⟩; refine ⟨_, rfl, ?_⟩; have n0_ := Aside0.mk (below_step (by repeat (with_reducible first | exact HB.out | apply ba_ | apply bn_ | apply bd_)) hb); clear HB; have HB := n0_; clear n0_; clear hb))
 go_ret2
 exact ⟨by first | rfl | (simp [errW_none, errW_some] <;> rfl) | (simp [*, errW_none, errW_some] <;> rfl), by repeat (with_reducible first | exact HB.out | apply ba_ | apply bn_ | apply bd_)⟩
def bits_Of.f (k : Nat) (l0 : List (S52)) (a1 : Int) (a2 : Int) : Option (Int) := (bits_notes_find.f k l0 a1 a2).bind fun bt1 => (if bt1.2 = true then (if 0 ≤ bt1.1 then (if bt1.1 < (l0.length : Int) then (some ((rd_T52 l0 bt1.1).f2)) else (none)) else (none)) else (some 0))
set_option maxHeartbeats 8000000 in
set_option maxRecDepth 100000 in
theorem bits_Of.calls (k : Nat) (A0 : Option Addr) (c0 : Nat) (l0 : List (S52)) (a1 : Int) (a2 : Int) (r : Int) (w : World) (hr0 : Kd.C k52 w A0 l0.length l0) (hc0 : l0.length ≤ c0) (h : bits_Of.f k l0 a1 a2 = some r) :
  Calls Try.prog 32 #[.slice A0 l0.length c0, .int .i64 a1, .int .i64 a2] w fun e w' => e = .returned (.int .i64 r) ∧ Below w.heap.size w w' := by
 have HR0 := Aside0.mk hr0
 have HC0 := Aside0.mk hc0
 clear hr0 hc0
 have HB := Aside0.mk (Below.refl w.heap.size w)
 have H : ((bits_notes_find.f k l0 a1 a2).bind fun bt1 => (if bt1.2 = true then (if 0 ≤ bt1.1 then (if bt1.1 < (l0.length : Int) then (some ((rd_T52 l0 bt1.1).f2)) else (none)) else (none)) else (some 0))) = some r := h
 clear h
 replace H := Option.bind_eq_some_iff.mp H
 obtain ⟨⟨t1, t2⟩, A40, H⟩ := H
 (try dsimp only at H)
 have A4 := Aside0.mk A40
 clear A40
 by_cases c5 : t2 = true
 ·subst c5
  have H1 : (if 0 ≤ t1 then (if t1 < (l0.length : Int) then (some ((rd_T52 l0 t1).f2)) else (none)) else (none)) = some r := by rw [if_pos rfl] at H; exact H
  clear H
  have H := H1
  clear H1
  by_cases c6 : 0 ≤ t1
  ·rw [if_pos c6] at H
   have c6b0 : decide (0 ≤ t1) = true := decide_eq_true c6
   clear c6
   by_cases c7 : t1 < (l0.length : Int)
   ·rw [if_pos c7] at H
    have c7b0 : decide (t1 < (l0.length : Int)) = true := decide_eq_true c7
    clear c7
    obtain rfl := Option.some.inj H
    go_enter Try.func32, Try.ntmps32
    go_wp2_with (first | (go_at_call 88; (with_reducible refine (bits_notes_find.calls k _ _ l0 a1 a2 t1 true _ ?side1 ?side2 A4.out).mono ?_); (case side1 => repeat (first | exact HR0.out | (with_reducible refine ca_ ?_ _) | (with_reducible refine cn_ ?_ _) | (with_reducible refine cd_ ?_))); (case side2 => exact HC0.out); rintro e w8 ⟨rfl, hb⟩; have n0_ := Aside0.mk (below_step (by repeat (with_reducible first | exact HB.out | apply ba_ | apply bn_ | apply bd_)) hb); clear HB; have HB := n0_; clear n0_; clear hb; have p3 : 0 ≤ (t1 : Int) := of_decide_eq_true (by first | (with_reducible assumption) | assumption); have q3 : t1 < (l0.length : Int) := of_decide_eq_true (by first | (with_reducible assumption) | assumption); obtain ⟨ad3, e3, hx3_0, hx3_1, hx3_2⟩ := at_T52 HR0.out t1 p3 q3; cases e3; replace hx3_0 := (HB.out.cell (World.block_lt_of_cell? w _ hx3_0)).trans hx3_0; replace hx3_1 := (HB.out.cell (World.block_lt_of_cell? w _ hx3_1)).trans hx3_1; replace hx3_2 := (HB.out.cell (World.block_lt_of_cell? w _ hx3_2)).trans hx3_2; replace p3 := eq_true p3; replace q3 := eq_true q3))
    go_ret
    exact ⟨by first | rfl | (simp [errW_none, errW_some] <;> rfl) | (simp [*, errW_none, errW_some] <;> rfl), by repeat (with_reducible first | exact HB.out | apply ba_ | apply bn_ | apply bd_)⟩
   ·rw [if_neg c7] at H
    exact absurd H (by simp)
  ·rw [if_neg c6] at H
   exact absurd H (by simp)
 ·replace c5 := Bool.eq_false_iff.mpr c5
  subst c5
  have H1 : (some 0) = some r := by rw [if_neg (show ¬ (false = true) by decide)] at H; exact H
  clear H
  have H := H1
  clear H1
  obtain rfl := Option.some.inj H
  go_enter Try.func32, Try.ntmps32
  go_wp2_with (first | (go_at_call 88; (with_reducible refine (bits_notes_find.calls k _ _ l0 a1 a2 t1 false _ ?side1 ?side2 A4.out).mono ?_); (case side1 => repeat (first | exact HR0.out | (with_reducible refine ca_ ?_ _) | (with_reducible refine cn_ ?_ _) | (with_reducible refine cd_ ?_))); (case side2 => exact HC0.out); rintro e w9 ⟨rfl, hb⟩; have n0_ := Aside0.mk (below_step (by repeat (with_reducible first | exact HB.out | apply ba_ | apply bn_ | apply bd_)) hb); clear HB; have HB := n0_; clear n0_; clear hb))
  go_ret
  exact ⟨by first | rfl | (simp [errW_none, errW_some] <;> rfl) | (simp [*, errW_none, errW_some] <;> rfl), by repeat (with_reducible first | exact HB.out | apply ba_ | apply bn_ | apply bd_)⟩
def bits_Row.l0 : Nat → List (S52) → Int → List Int → Int → Int → Option (List Int)
 | 0, _, _, _, _, _ => none
 | k + 1, x0, x1, x6, x10, x11 => if x11 < x10 then ((bits_Of.f k x0 x1 x11).bind fun t1 => (if x6.length < 17592186044416 then (bits_Row.l0 k x0 x1 (x6 ++ [t1]) x10 (wrap64 (x11 + 1))) else (none))) else (some x6)
def bits_Row.f (k : Nat) (l0 : List (S52)) (a1 : Int) (a2 : Int) : Option (List Int) := bits_Row.l0 k l0 a1 ([] : List Int) (mn (mx a2 0) 1024) 0
set_option maxHeartbeats 8000000 in
set_option maxRecDepth 100000 in
theorem bits_Row.calls (k : Nat) (A0 : Option Addr) (c0 : Nat) (l0 : List (S52)) (a1 : Int) (a2 : Int) (r : List Int) (w : World) (hr0 : Kd.C k52 w A0 l0.length l0) (hc0 : l0.length ≤ c0) (h : bits_Row.f k l0 a1 a2 = some r) :
  Calls Try.prog 31 #[.slice A0 l0.length c0, .int .i64 a1, .int .i64 a2] w fun e w' => ∃ v0_ : Value, e = .returned (v0_) ∧ Kd.R (Kd.int .i64) 3 w' w.heap.size (fun _ => True) v0_ r ∧ Below w.heap.size w w' := by
 have HR0 := Aside0.mk hr0
 have HC0 := Aside0.mk hc0
 clear hr0 hc0
 have HB := Aside0.mk (Below.refl w.heap.size w)
 have H : (bits_Row.l0 k l0 a1 ([] : List Int) (mn (mx a2 0) 1024) 0) = some r := h
 clear h
 obtain ⟨ji4, hji4⟩ : ∃ j_ : Int, (mx a2 0) = j_ := ⟨_, rfl⟩
 replace H : (bits_Row.l0 k l0 a1 ([] : List Int) (mn (ji4) 1024) 0) = some r := by first | (rw [hji4] at H; exact H) | (simp only [hji4] at H ⊢; exact H)
 (try (have hji4l : 0 ≤ ji4 := by (rw [← hji4]; unfold mx; (repeat' split) <;> omega)))
 (try (have hji4m : 0 ≤ ji4 := by omega))
 have hji4_ : (if a2 < 0 then 0 else a2) = ji4 := hji4
 obtain ⟨ji5, hji5⟩ : ∃ j_ : Int, (mn (ji4) 1024) = j_ := ⟨_, rfl⟩
 replace H : (bits_Row.l0 k l0 a1 ([] : List Int) ji5 0) = some r := by first | (rw [hji5] at H; exact H) | (simp only [hji5] at H ⊢; exact H)
 have hji5_ : (if 1024 < (ji4) then 1024 else (ji4)) = ji5 := hji5
 have H' := Aside0.mk H
 clear H
 go_enter Try.func31, Try.ntmps31
 go_wp2
 go_loopg [6, 11] k (fun kq v6 v11 w' => ∃ (x6_1 : List Int) (x11_1 : Int), v11 = .int .i64 x11_1 ∧ Aside0 (bits_Row.l0 kq l0 a1 x6_1 ji5 x11_1 = some r) ∧ Aside0 (kq ≤ k) ∧ Aside0 (Kd.R (Kd.int .i64) 3 w' w.heap.size (fun _ => True) v6 x6_1) ∧ Aside0 (Below w.heap.size w w'))
 case atStart => exact ⟨(([] : List Int)), (0), (by first | rfl | (simp; done) | (simp [*]; done)), H', ⟨Nat.le_refl _⟩, ⟨by first | exact Kd.R_nil _ _ _ _ _ | exact Kd.N_nil _ _ _ _ _ | exact Kd.V_nil _ _ _ _ _ | exact Kd.Q_nil _ _ _ _ _ | exact Kd.S_nil _ _ _ _ _⟩, ⟨by repeat (with_reducible first | exact HB.out | apply ba_ | apply bn_ | apply bd_)⟩⟩
 case round =>
  clear H'
  try clear p2
  try clear c3
  obtain ⟨x6_1, x11_1, rfl, HA, HK1, HO_6, HB⟩ := hrel
  cases gk with
  | zero => exact absurd HA.out (by simp [bits_Row.l0])
  | succ k1 =>
   have H := HA.out
   clear HA
   simp only [bits_Row.l0] at H
   by_cases c6 : x11_1 < ji5
   ·rw [if_pos c6] at H
    have c6b0 : decide (x11_1 < ji5) = true := decide_eq_true c6
    clear c6
    replace H := Option.bind_eq_some_iff.mp H
    obtain ⟨t1, A70, H⟩ := H
    (try dsimp only at H)
    have A7 := Aside0.mk A70
    clear A70
    by_cases c8 : x6_1.length < 17592186044416
    ·rw [if_pos c8] at H
     have LMc8 := Aside0.mk c8
     clear c8
     obtain ⟨y2, hy2⟩ : ∃ y_ : List Int, y_ = (x6_1 ++ [t1]) := ⟨_, rfl⟩
     replace H : (bits_Row.l0 k1 l0 a1 y2 ji5 (wrap64 (x11_1 + 1))) = some r := by first | (rw [hy2]; with_reducible exact H) | (have H2_ := (Option.bind_some _ _).symm.trans H; rw [hy2]; with_reducible exact H2_) | (have H2_ := (Option.bind_some _ _).symm.trans H; with_reducible exact H2_) | with_reducible exact H | (rw [hy2]; exact H) | exact H
     have Ny2 := Aside0.mk hy2
     clear hy2
     have H' := Aside0.mk H
     clear H
     go_wp2_with (first | ((with_reducible refine gate_callee (f := 32) rfl ?_); refine goesM_ (some 18) Try.func32 #[.slice A0 l0.length c0, .int .i64 a1, .int .i64 x11_1] ?_; (with_reducible refine (bits_Of.calls k1 _ _ l0 a1 x11_1 t1 _ ?side1 ?side2 A7.out).mono ?_); (case side1 => repeat (first | exact (Kd.C_below HR0.out HB.out) | (with_reducible refine ca_ ?_ _) | (with_reducible refine cn_ ?_ _) | (with_reducible refine cd_ ?_))); (case side2 => exact HC0.out); rintro e w9 ⟨rfl, hb⟩; refine ⟨_, rfl, ?_⟩; have n0_ := Aside0.mk (Kd.R_below (by (with_reducible repeat (first | apply ra_ | apply rn_ | apply rd_)); exact HO_6.out) hb); have n1_ := Aside0.mk (below_step (by repeat (with_reducible first | exact HB.out | apply ba_ | apply bn_ | apply bd_)) hb); clear HO_6; clear HB; have HO_6 := n0_; have HB := n1_; clear n0_ n1_; clear hb) | ((with_reducible refine gate_builtin (b := .append) (xs := #[.tmp 14, .tmp 19]) rfl ?_); at_builtin; refine Kd.R_append (Kd.int .i64) (w0 := w) w.heap.size rfl (.tmp 14) (.tmp 19) 41 3 (.int .i64 0) 8 rfl Try.underlying41 info3 rfl (by decide) (by omega) u6 x6_1 t1 [.int .i64 t1] (fun _ => True) (fun _ => False) rfl rfl ?aP (fun _ hk => hk.elim) ?aF ?aO ?aB ?aS ?aL ?_; (case aP => exact rfl); (case aB => exact (by repeat (with_reducible first | exact HB.out | apply ba_ | apply bn_ | apply bd_))); (case aF => exact (fun _ _ => trivial)); (case aO => exact (by (with_reducible repeat (first | apply ra_ | apply rn_ | apply rd_)); exact HO_6.out)); (case aS => exact (below_size (by repeat (with_reducible first | exact HB.out | apply ba_ | apply bn_ | apply bd_)))); (case aL => have := LMc8.out; omega); intro v3 w10 ho hb hg hat; rw [← Ny2.out] at ho; have n0_ := Aside0.mk (hb); have n1_ := Aside0.mk (ho); clear HB; clear HO_6; have HB := n0_; have HO4 := n1_; clear n0_ n1_; clear ho hb hg hat))
     go_roundg k1
     case measure => have := HK1.out; omega
     case rel => exact ⟨(y2), (wrap64 (x11_1 + 1)), (by first | rfl | (simp; done) | (simp [*]; done)), H', ⟨by have := HK1.out; omega⟩, ⟨by (with_reducible repeat (first | apply ra_ | apply rn_ | apply rd_)); exact HO4.out⟩, ⟨by repeat (with_reducible first | exact HB.out | apply ba_ | apply bn_ | apply bd_)⟩⟩
    ·rw [if_neg c8] at H
     exact absurd H (by simp)
   ·rw [if_neg c6] at H
    have c6b0 : decide (x11_1 < ji5) = false := decide_eq_false c6
    clear c6
    obtain rfl := Option.some.inj H
    go_wp2
    go_ret
    exact ⟨_, by first | rfl | (simp [errW_none, errW_some] <;> rfl) | (simp only [← hji4, ← hji5]; first | rfl | (simp [errW_none, errW_some] <;> rfl)) | (simp [*, errW_none, errW_some] <;> rfl), by (with_reducible repeat (first | apply ra_ | apply rn_ | apply rd_)); exact HO_6.out, by repeat (with_reducible first | exact HB.out | apply ba_ | apply bn_ | apply bd_)⟩
end Go.Proofs.Ytnlfhbohcgjcbaa.PA
namespace Go.Proofs.Ytnlfhbohcgjcbaa.PA
open Go.RowKit Go.Proofs.YtnlfhbohcgjcbaaW.PrintWords Go.Proofs.YtnlfhbohcgjcbaaW.PrintLast Go.Proofs.YtnlfhbohcgjcbaaW.PrintMore
set_option linter.unusedVariables false
set_option linter.unusedSimpArgs false
theorem run_copy_rowS {P : Program} (w : World) (dT sT ty elem : TypeId) (g o dLen dCap : Nat) (a : Addr) (sLen sCap : Nat) (cur : Array Value) (t : TypeId) (cs : List Value) (sz m : Nat)
  (hu : P.underlying dT = some (.slice elem)) (hs : (P.info? elem).map (·.size) = some sz)
  (hg : w.heap[g]? = some (.cells cur t (0, 0))) (hm : Nat.min sLen dLen = m) (hn : cs.length = m * sz)
  (hsrc : ∀ j v, cs[j]? = some v → w.cell? (a.add j) = some v) (hfit : o + cs.length ≤ cur.size) (h1 : ∀ v ∈ cs, v.oneCell' = true) :
  (Builtin.copy_ #[dT, sT] ty #[.slice (some ⟨g, o, none⟩) dLen dCap, .slice (some a) sLen sCap]).run P w =
   .ok (goInt m) (w.setRow g (cur.toList.take o ++ cs ++ cur.toList.drop (o + cs.length)).toArray) := by
 have hl := run_loadCells_list (P := P) w a cs hsrc
 have hst := run_storeCells_at P g o t cs 0 cur w hg (by simpa using hfit) h1
 cases hq : P.info? elem with
 | none => simp [hq] at hs
 | some i =>
  have hi : i.size = sz := by simpa [hq] using hs
  simp [Builtin.copy_, run_underlying hu, Builtin.lenOf, Builtin.firstCells, sizeOf, typeInfo, hq, hi, hm, ← hn, hl, hst]
theorem wp_copy_run (w : World) {P : Program} {o : Oper} {a : Act} {K : Act → World → Prop} {Q : Exit → Act → World → Prop} (d s : Operand) (t t' : TypeId)
  (ho : o.op = .call { callee := .builtin .copy, args := #[d, s], argTypes := #[t, t'] }) (v u : Value) (hd : a.eval d = v) (hs : a.eval s = u) {v' : Value} {w' : World}
  (hr : (Builtin.copy_ #[t, t'] o.type #[v, u]).run P w = .ok v' w') (h : K (a.put o.dst v') w') : o.wp P a w K Q := by
 unfold Oper.wp execOp
 simp only [ho, resolve, invoke, builtin, Sem.run_bind, Sem.run_pure, Result.andThen_ok, List.map_toArray, List.map_cons, List.map_nil, hd, hs, hr]
 exact h
theorem wpList_copy_run (w : World) {P : Program} {ops : Array Oper} {rest : List Oper} {o : Oper} {a : Act} {Q : Exit → Act → World → Prop} (hgd : o.guard = none) (d s : Operand) (t t' : TypeId)
  (ho : o.op = .call { callee := .builtin .copy, args := #[d, s], argTypes := #[t, t'] }) (v u : Value) (hd : a.eval d = v) (hs : a.eval s = u) {v' : Value} {w' : World}
  (hr : (Builtin.copy_ #[t, t'] o.type #[v, u]).run P w = .ok v' w') (h : wpList P ops Q rest (a.put o.dst v') w') : wpList P ops Q (o :: rest) a w :=
 wpList_plain hgd fun _ hK => wp_copy_run w d s t t' ho v u hd hs hr (hK _ _ h)
theorem step_copy_run {P : Program} {ops : Array Oper} {o : Oper} {a : Act} {w : World} {K : Act → World → Prop} {Q : Exit → Act → World → Prop} {E : Prop}
  (hg : o.guard = none) (d x : Operand) (dT sT : TypeId) (hop : o.op = Op.call { callee := Callee.builtin Builtin.copy, args := #[d, x], argTypes := #[dT, sT] })
  (v u : Value) (hd : a.eval d = v) (hx : a.eval x = u) {v' : Value} {w' : World} (hr : (Builtin.copy_ #[dT, sT] o.type #[v, u]).run P w = .ok v' w') (hK : K (a.put o.dst v') w') :
  if Region.wanted o (yielded ops a.tmps) = true then Oper.wp P o a w K Q else E := by
 have hw : Region.wanted o (yielded ops a.tmps) = true := by simp [Region.wanted, hg]
 rw [if_pos hw]
 unfold Oper.wp
 simp [execOp, hop, resolve, invoke, builtin, hd, hx, hr, Result.andThen]
 exact hK
abbrev Nt := S52
def fl (x : Nt) : List Value := [.int .i64 x.f0, .int .i64 x.f1, .int .i64 x.f2]
def flat (xs : List Nt) : List Value := xs.flatMap fl
theorem flat_cons (x : Nt) (xs : List Nt) : flat (x :: xs) = fl x ++ flat xs := rfl
theorem flat_append (xs ys : List Nt) : flat (xs ++ ys) = flat xs ++ flat ys := List.flatMap_append
theorem fl_len (x : Nt) : (fl x).length = 3 := rfl
theorem flat_len (xs : List Nt) : (flat xs).length = xs.length * 3 := by
 induction xs with
 | nil => rfl
 | cons x xs ih => rw [flat_cons, List.length_append, ih, fl_len, List.length_cons]; omega
theorem fl_one (x : Nt) : ∀ u ∈ fl x, u.oneCell' = true := by
 intro u hu
 simp only [fl, List.mem_cons, List.not_mem_nil, or_false] at hu
 rcases hu with rfl | rfl | rfl <;> rfl
theorem flat_one (xs : List Nt) : ∀ u ∈ flat xs, u.oneCell' = true := by
 intro u hu
 obtain ⟨x, _, h⟩ := List.mem_flatMap.1 hu
 exact fl_one x u h
theorem flat_take (xs : List Nt) (i : Nat) (h : i ≤ xs.length) : flat (xs.take i) = (flat xs).take (i * 3) := by
 conv => rhs; rw [← List.take_append_drop i xs, flat_append]
 have hl : (flat (xs.take i)).length = i * 3 := by rw [flat_len, List.length_take]; omega
 rw [List.take_left' hl]
theorem flat_drop (xs : List Nt) (i : Nat) (h : i ≤ xs.length) : flat (xs.drop i) = (flat xs).drop (i * 3) := by
 conv => rhs; rw [← List.take_append_drop i xs, flat_append]
 have hl : (flat (xs.take i)).length = i * 3 := by rw [flat_len, List.length_take]; omega
 rw [List.drop_left' hl]
theorem reps_flat (xs : List Nt) : ∀ (cs : List Value), Reps (fun (p : Nt) c => c = fl p) 3 xs cs ↔ cs = flat xs := by
 induction xs with
 | nil =>
  intro cs
  constructor
  ·intro h
   exact List.length_eq_zero_iff.1 (by simpa using h.1)
  ·rintro rfl
   exact Reps.none _ _
 | cons x xs ih =>
  intro cs
  constructor
  ·rintro ⟨h1, h2⟩
   have h0 := h2 0 x rfl
   simp only [Nat.zero_mul, List.drop_zero] at h0
   rw [List.length_cons] at h1
   have h3 : cs.drop 3 = flat xs := (ih _).1 ⟨by rw [List.length_drop, h1]; omega, fun j p hj => by
    have := h2 (j + 1) p (by simpa using hj)
    rw [List.drop_drop, show 3 + j * 3 = (j + 1) * 3 by omega]
    exact this⟩
   rw [flat_cons, ← h0, ← h3, List.take_append_drop]
  ·rintro rfl
   have := (ih (flat xs)).2 rfl
   refine ⟨by rw [flat_len], fun j p hj => ?_⟩
   cases j with
   | zero =>
    simp only [List.getElem?_cons_zero, Option.some.injEq] at hj
    subst hj
    rfl
   | succ j =>
    have h := this.2 j p (by simpa using hj)
    rw [flat_cons, show (j + 1) * 3 = (fl x).length + j * 3 by rw [fl_len]; omega, List.drop_append, List.drop_of_length_le (by omega), List.nil_append, Nat.add_sub_cancel_left]
    exact h
theorem note_M (w : World) (base : Nat) (ok : Nat → Prop) (x : Nt) (cs : List Value) : k52.M w base ok x cs ↔ cs = fl x :=
 ⟨fun h => k52_openM h, fun h => h ▸ k52_mkM w base ok x⟩
theorem R_notes {W : World} {base : Nat} {ok : Nat → Prop} {v : Value} {xs : List Nt} : Kd.R k52 52 W base ok v xs ↔ (∀ k, v.ownBlock = some k → ok k) ∧ W.ownsRow base 52 3 v xs.length (flat xs) := by
 constructor
 ·rintro ⟨h1, inner, ho, hr⟩
  refine ⟨h1, ?_⟩
  have e := (reps_flat xs inner).1 (hr.imp_ (fun p c hp => (note_M _ _ _ p c).1 hp))
  rw [← e]
  exact ho
 ·rintro ⟨h1, ho⟩
  exact ⟨h1, flat xs, ho, ((reps_flat xs _).2 rfl).imp_ (fun p c hp => (note_M _ _ _ p c).2 hp)⟩
/-- A list with one more at a place. -/
def insAt (xs : List Nt) (i : Nat) (x : Nt) : List Nt := xs.take i ++ x :: xs.drop i
theorem flat_ins (xs : List Nt) (i : Nat) (x : Nt) (h : i ≤ xs.length) : flat (insAt xs i x) = (flat xs).take (i * 3) ++ (fl x ++ (flat xs).drop (i * 3)) := by
 rw [insAt, flat_append, flat_cons, flat_take xs i h, flat_drop xs i h]
theorem ins_len (xs : List Nt) (i : Nat) (x : Nt) (h : i ≤ xs.length) : (insAt xs i x).length = xs.length + 1 := by
 rw [insAt, List.length_append, List.length_cons, List.length_take, List.length_drop]; omega
theorem shift_cells (L C F : List Value) (a n3 : Nat) (hC : L.take n3 = C) (ha : a ≤ n3) (hn : n3 + 3 ≤ L.length) (hF : F.length = 3) :
  let A1 := L.take (a + 3) ++ C.drop a ++ L.drop (a + 3 + (C.drop a).length)
  let A2 := A1.take a ++ F ++ A1.drop (a + F.length)
  A2.length = L.length ∧ A2.take (n3 + 3) = C.take a ++ (F ++ C.drop a) := by
 intro A1 A2
 have hCl : C.length = n3 := by rw [← hC, List.length_take]; omega
 have hd : (C.drop a).length = n3 - a := by rw [List.length_drop, hCl]
 have h1 : A1.take a = C.take a := by
  simp only [A1]
  rw [List.append_assoc, List.take_append_of_le_length (by rw [List.length_take]; omega), List.take_take, ← hC, List.take_take]
  congr 1
  omega
 have h2 : A1.drop (a + 3) = C.drop a ++ L.drop (n3 + 3) := by
  simp only [A1]
  have hl : (L.take (a + 3)).length = a + 3 := by rw [List.length_take]; omega
  rw [List.append_assoc, List.drop_left' hl, hd]
  congr 2
  omega
 have h3 : A2 = C.take a ++ F ++ (C.drop a ++ L.drop (n3 + 3)) := by
  simp only [A2]
  rw [h1, hF, h2]
 constructor
 ·rw [h3]
  simp only [List.length_append, hF, hd, List.length_take, List.length_drop, hCl]
  omega
 ·rw [h3, ← List.append_assoc, List.take_append_of_le_length (by simp only [List.length_append, hF, hd, List.length_take, hCl]; omega), List.take_of_length_le (by simp only [List.length_append, hF, hd, List.length_take, hCl]; omega), List.append_assoc]
theorem grow_cells (ROW C F : List Value) (a n3 : Nat) (hlen : C.length = n3) (hR : ROW.take a = C.take a) (ha : a ≤ n3) (hn : n3 + 3 ≤ ROW.length) (hF : F.length = 3) :
  let A1 := ROW.take a ++ F ++ ROW.drop (a + F.length)
  let A2 := A1.take (a + 3) ++ C.drop a ++ A1.drop (a + 3 + (C.drop a).length)
  A2.length = ROW.length ∧ A2.take (n3 + 3) = C.take a ++ (F ++ C.drop a) := by
 intro A1 A2
 have hd : (C.drop a).length = n3 - a := by rw [List.length_drop, hlen]
 have hl1 : (ROW.take a ++ F).length = a + 3 := by rw [List.length_append, List.length_take, hF]; omega
 have h1 : A1.take (a + 3) = ROW.take a ++ F := by
  simp only [A1]
  rw [List.take_left' hl1]
 have hA1 : A1.length = ROW.length := by
  simp only [A1, List.length_append, List.length_take, List.length_drop, hF]
  omega
 have h3 : A2 = ROW.take a ++ F ++ (C.drop a ++ A1.drop (a + 3 + (C.drop a).length)) := by
  simp only [A2]
  rw [h1, List.append_assoc]
 constructor
 ·rw [h3]
  simp only [List.length_append, hF, hd, List.length_take, List.length_drop, hA1]
  omega
 ·rw [h3, ← List.append_assoc, List.take_append_of_le_length (by simp only [List.length_append, hF, hd, List.length_take]; omega), List.take_of_length_le (by simp only [List.length_append, hF, hd, List.length_take]; omega), hR, List.append_assoc]
theorem infoNote : (Try.prog.info? 52).map (fun i => (i.zero, i.size, i.bytes)) = some (some (.agg #[(.int .i64 0), (.int .i64 0), (.int .i64 0)]), 3, 24) := by kernel_rfl
theorem sizeNote : (Try.prog.info? 52).map (·.size) = some 3 := by kernel_rfl
set_option maxHeartbeats 4000000 in
set_option maxRecDepth 100000 in
theorem insert_shift (g n cap i gx : Nat) (cur : Array Value) (C : List Value) (x : Nt) (W : World) (hi : i < n) (hcap : n + 1 ≤ cap) (hc63 : cap ≤ maxLen)
  (hg : W.heap[g]? = some (.cells cur 52 (0, 0))) (hcur : cur.size = cap * 3) (hC : cur.toList.take (n * 3) = C) (hC1 : ∀ u ∈ C, u.oneCell' = true)
  (hx : W.heap[gx]? = some (.cells #[.int .i64 x.f0, .int .i64 x.f1, .int .i64 x.f2] 52 (0, 0))) (hne : gx ≠ g) :
  Calls Try.prog 94 #[.slice (some ⟨g, 0, none⟩) n cap, .int .i64 i, .slice (some ⟨gx, 0, none⟩) 1 1] W fun e w' => ∃ A2 : List Value, e = .returned (.slice (some ⟨g, 0, none⟩) (n + 1) cap) ∧ w'.heap[g]? = some (.cells A2.toArray 52 (0, 0)) ∧ A2.length = cap * 3 ∧ A2.take ((n + 1) * 3) = C.take (i * 3) ++ (fl x ++ C.drop (i * 3)) ∧ (∀ k, k ≠ g → w'.heap[k]? = W.heap[k]?) ∧ w'.heap.size = W.heap.size ∧ w'.os = W.os ∧ w'.tape = W.tape ∧ w'.output = W.output := by
 unfold maxLen at hc63
 have hz2 : ¬ ((i : Int) = (n : Int)) := by omega
 have hin : i ≤ n := by omega
 have hb4 : ¬ (cap = i) := by omega
 have hb2 : ¬ (cap = i + 1) := by omega
 have hov : ∀ off lb cb, (callFunc 136 #[.slice (some ⟨gx, 0, none⟩) 1 1, .slice (some ⟨g, off, none⟩) lb cb]).run Try.prog W = .ok (.value (.bool false)) W := fun off lb cb => by
  rw [run_callFunc_extern Try.func136 (by kernel_rfl) (by kernel_rfl) (by kernel_rfl) (e := Extern.SlicesOverlaps.overlaps #[47, 47] #[4]) (by kernel_rfl),
   Lib.run_overlaps_apart W 47 4 52 Try.underlying47 3 (fun w => Try.sizeOf52 w) ⟨gx, 0, none⟩ ⟨g, off, none⟩ 1 1 lb cb hne 52 52 3 cur.size (by simp [World.shape?, hx]) (by simp [World.shape?, hg]) (by omega) (by simp [World.frozen?, hx]) (by simp [World.frozen?, hx])]
  rfl
 have hCl : C.length = n * 3 := by rw [← hC, List.length_take, Array.length_toList, hcur]; omega
 have h2 := shift_cells cur.toList C (fl x) (i * 3) (n * 3) hC (by omega) (by rw [Array.length_toList, hcur]; omega) rfl
 have hcells : ∀ j v, (C.drop (i * 3))[j]? = some v → W.cell? ⟨g, i * 3 + j, none⟩ = some v := fun j v hj => by
  rw [List.getElem?_drop, ← hC, List.getElem?_take] at hj
  split at hj
  ·simpa [World.cell?, hg] using hj
  ·cases hj
 have hcp1 : ∀ ty dc sc, (Builtin.copy_ #[47, 47] ty #[.slice (some ⟨g, (i + 1) * 3, none⟩) (n - i) dc, .slice (some ⟨g, i * 3, none⟩) (n + 1 - i) sc]).run Try.prog W.drew = .ok (goInt ((n - i : Nat) : Int)) (W.drew.setRow g (cur.toList.take ((i + 1) * 3) ++ C.drop (i * 3) ++ cur.toList.drop ((i + 1) * 3 + (C.drop (i * 3)).length)).toArray) := fun ty dc sc =>
  run_copy_rowS W.drew _ _ ty 52 g ((i + 1) * 3) (n - i) dc ⟨g, i * 3, none⟩ (n + 1 - i) sc cur 52 (C.drop (i * 3)) 3 (n - i) Try.underlying47 sizeNote hg (by simp only [Nat.min_def]; split <;> omega)
   (by rw [List.length_drop, hCl]; omega) (fun j v hj => by rw [Addr.add_lit]; exact hcells j v hj) (by rw [List.length_drop, hCl, hcur]; omega) (fun u hu => hC1 u (List.mem_of_mem_drop hu))
 obtain ⟨A1, hA1⟩ : ∃ A1, A1 = cur.toList.take ((i + 1) * 3) ++ C.drop (i * 3) ++ cur.toList.drop ((i + 1) * 3 + (C.drop (i * 3)).length) := ⟨_, rfl⟩
 rw [← hA1] at hcp1
 rw [show (i + 1) * 3 = i * 3 + 3 by omega] at hA1
 simp only [← hA1] at h2
 have hA1l : A1.length = cap * 3 := by
  rw [hA1]
  simp only [List.length_append, List.length_take, List.length_drop, hCl, Array.length_toList, hcur]
  omega
 have hgx' : (W.drew.setRow g A1.toArray).heap[gx]? = some (.cells #[.int .i64 x.f0, .int .i64 x.f1, .int .i64 x.f2] 52 (0, 0)) := by rw [setRow_other _ _ _ _ hne]; exact hx
 have hcp2 : ∀ ty dc, (Builtin.copy_ #[47, 47] ty #[.slice (some ⟨g, i * 3, none⟩) (n + 1 - i) dc, .slice (some ⟨gx, 0, none⟩) 1 1]).run Try.prog (W.drew.setRow g A1.toArray) = .ok (goInt ((1 : Nat) : Int)) ((W.drew.setRow g A1.toArray).setRow g (A1.take (i * 3) ++ fl x ++ A1.drop (i * 3 + (fl x).length)).toArray) := fun ty dc => by
  have h := run_copy_rowS (P := Try.prog) (W.drew.setRow g A1.toArray) 47 47 ty 52 g (i * 3) (n + 1 - i) dc ⟨gx, 0, none⟩ 1 1 A1.toArray 52 (fl x) 3 1 Try.underlying47 sizeNote (setRow_heap _ _ _ _ _ _ hg) (by simp only [Nat.min_def]; split <;> omega) rfl
   (fun j v hj => by rw [Addr.add_lit]; simpa [World.cell?, hgx', fl] using hj) (by rw [fl_len, List.size_toArray, hA1l]; omega) (fl_one x)
  simpa using h
 have hw1 : IntKind.i64.wrap ((i : Int) + 1) = (i : Int) + 1 := by rw [IntKind.wrap_i64]; omega
 have hb1 : (0 : Int) ≤ (i : Int) + 1 := by omega
 have htn : ((i : Int) + 1).toNat = i + 1 := by omega
 have hb3 : (i : Int) ≤ (n : Int) + 1 := by omega
 have hb5 : (i : Int) ≤ (n : Int) := by omega
 have hs1 : n + 1 - (i + 1) = n - i := by omega
 have H2 := Aside0.mk h2
 have HG := Aside0.mk hg
 have HCU := Aside0.mk hcur
 clear hcells hA1 h2 hgx' hA1l hCl hC hC1 hcur
 go_enter Try.func94, Try.ntmps94
 go_wp2_with (simp only [hov])
 go_region_law (refine step_copy_run rfl _ _ 47 47 rfl _ _ (by simp [Act.eval, Act.put]) (by simp [Act.eval, Act.put]) (hcp1 _ _ _) ?_)
 go_wp2_with (at_builtin; refine wpList_copy_run _ rfl _ _ 47 47 rfl _ _ rfl rfl (hcp2 _ _) ?_)
 go_ret
 exact ⟨_, rfl, setRow_heap _ _ _ _ _ _ (setRow_heap _ _ _ _ _ _ HG.out), by simpa using H2.out.1.trans (by simpa using HCU.out), by rw [show (n + 1) * 3 = n * 3 + 3 by omega]; simpa only [List.append_assoc] using H2.out.2, fun k hk => by rw [setRow_other _ _ _ _ hk, setRow_other _ _ _ _ hk]; rfl, by simp [World.setRow], rfl, rfl, rfl⟩
theorem zeros_len (k : Nat) : (Builtin.zeroCells (Value.agg #[(.int .i64 0), (.int .i64 0), (.int .i64 0)]).cells k).size = k * 3 := by
 simp [Builtin.zeroCells, Value.cells]
 try omega
set_option maxHeartbeats 4000000 in
set_option maxRecDepth 100000 in
theorem insert_grow (g n i gx : Nat) (cur : Array Value) (C : List Value) (x : Nt) (W : World) (hi : i < n) (hbig : n < 1000000)
  (hg : W.heap[g]? = some (.cells cur 52 (0, 0))) (hcur : cur.size = n * 3) (hC : cur.toList = C) (hC1 : ∀ u ∈ C, u.oneCell' = true)
  (hx : W.heap[gx]? = some (.cells #[.int .i64 x.f0, .int .i64 x.f1, .int .i64 x.f2] 52 (0, 0))) :
  Calls Try.prog 94 #[.slice (some ⟨g, 0, none⟩) n n, .int .i64 i, .slice (some ⟨gx, 0, none⟩) 1 1] W fun e w' => ∃ (G : Nat) (A2 : List Value), e = .returned (.slice (some ⟨W.heap.size, 0, none⟩) (n + 1) G) ∧ w'.heap[W.heap.size]? = some (.cells A2.toArray 52 (0, 0)) ∧ n + 1 ≤ G ∧ G ≤ maxLen ∧ A2.length = G * 3 ∧ A2.take ((n + 1) * 3) = C.take (i * 3) ++ (fl x ++ C.drop (i * 3)) ∧ Below W.heap.size W w' := by
 obtain ⟨i0, hi0, hz0, hzs, hzb⟩ := info_parts infoNote
 have hCl : C.length = n * 3 := by rw [← hC, Array.length_toList, hcur]
 have hgw : g < W.heap.size := blk_lt hg
 have hgxw : gx < W.heap.size := blk_lt hx
 have hcell : ∀ j v, C[j]? = some v → W.cell? ⟨g, j, none⟩ = some v := fun j v hj => by
  rw [← hC] at hj
  simpa [World.cell?, hg] using hj
 have hold : (Builtin.firstCells i0.size i (.slice (some ⟨g, 0, none⟩) i n)).run Try.prog W.drew = .ok (C.take (i * 3)).toArray W.drew := by
  rw [hzs]
  exact run_firstCells_some W.drew 3 i ⟨g, 0, none⟩ i n (C.take (i * 3)) (by rw [List.length_take, hCl]; omega) (fun j v hj => by
   rw [add_plain]
   rw [List.getElem?_take] at hj
   split at hj
   ·exact hcell j v hj
   ·cases hj)
 have hik : i + (n + 1 - i) = n + 1 := by omega
 have hkk : (n : Int) + 1 - (i : Int) = ((n + 1 - i : Nat) : Int) := by omega
 have hrz : ∀ ty, (Builtin.append_ #[47, 3] ty #[.slice (some ⟨g, 0, none⟩) i n, .int .i64 ((n : Int) + 1 - (i : Int))]).run Try.prog W =
   .ok (.slice (some ⟨W.heap.size, 0, none⟩) (n + 1) (grownCap W (n + 1) n 52)) (W.drew.alloc (.cells ((C.take (i * 3)).toArray ++ Builtin.zeroCells (Value.agg #[(.int .i64 0), (.int .i64 0), (.int .i64 0)]).cells (n + 1 - i) ++ Builtin.zeroCells (Value.agg #[(.int .i64 0), (.int .i64 0), (.int .i64 0)]).cells (grownCap W (n + 1) n 52 - (n + 1))) 52)) := fun ty => by
  have h := Lib.run_append_grow_zeros W 47 3 ty 52 i0 _ .i64 .i64 Try.underlying47 Try.underlying3 hi0 hz0 (some ⟨g, 0, none⟩) i n (C.take (i * 3)) hold (n + 1 - i) (by omega) (by omega) (by omega) (by omega) (by rw [hzb]; omega) (by rw [hzb, hik]; exact growslice_fits (by omega) (by omega))
  rw [hik] at h
  rw [hkk]
  exact h
 have hGn : n + 1 ≤ grownCap W (n + 1) n 52 := grownCap_ge W _ _ _
 have hGm := grownCap_le_maxLen W (n + 1) n 52 (by unfold maxLen; omega)
 obtain ⟨G, hG⟩ : ∃ G, G = grownCap W (n + 1) n 52 := ⟨_, rfl⟩
 obtain ⟨ROW, hROW⟩ : ∃ ROW : Array Value, ROW = (C.take (i * 3)).toArray ++ Builtin.zeroCells (Value.agg #[(.int .i64 0), (.int .i64 0), (.int .i64 0)]).cells (n + 1 - i) ++ Builtin.zeroCells (Value.agg #[(.int .i64 0), (.int .i64 0), (.int .i64 0)]).cells (G - (n + 1)) := ⟨_, rfl⟩
 rw [← hG] at hrz hGn hGm
 rw [← hROW] at hrz
 have hRs : ROW.size = G * 3 := by
  rw [hROW, Array.size_append, Array.size_append, zeros_len, zeros_len, List.size_toArray, List.length_take, hCl]
  omega
 have hRt : ROW.toList.take (i * 3) = C.take (i * 3) := by
  rw [hROW, Array.append_assoc, Array.toList_append, List.take_append_of_le_length (by rw [List.length_take, hCl]; omega), List.take_take, Nat.min_self]
 have h2 := grow_cells ROW.toList C (fl x) (i * 3) (n * 3) hCl hRt (by omega) (by rw [Array.length_toList, hRs]; omega) rfl
 have hGM : G ≤ 9223372036854775807 := by unfold maxLen at hGm; omega
 have hcpA : ∀ (W1 : World), W1.heap[W.heap.size]? = some (.cells ROW 52 (0, 0)) → W1.heap[gx]? = some (.cells #[.int .i64 x.f0, .int .i64 x.f1, .int .i64 x.f2] 52 (0, 0)) → ∀ ty dc, (Builtin.copy_ #[47, 47] ty #[.slice (some ⟨W.heap.size, i * 3, none⟩) (n + 1 - i) dc, .slice (some ⟨gx, 0, none⟩) 1 1]).run Try.prog W1 = .ok (goInt ((1 : Nat) : Int)) (W1.setRow W.heap.size (ROW.toList.take (i * 3) ++ fl x ++ ROW.toList.drop (i * 3 + (fl x).length)).toArray) := fun W1 hN hX ty dc =>
  run_copy_rowS (P := Try.prog) W1 47 47 ty 52 W.heap.size (i * 3) (n + 1 - i) dc ⟨gx, 0, none⟩ 1 1 ROW 52 (fl x) 3 1 Try.underlying47 sizeNote hN (by simp only [Nat.min_def]; split <;> omega) rfl
   (fun j v hj => by rw [Addr.add_lit]; simpa [World.cell?, hX, fl] using hj) (by rw [fl_len, hRs]; omega) (fl_one x)
 obtain ⟨A1, hA1⟩ : ∃ A1, A1 = ROW.toList.take (i * 3) ++ fl x ++ ROW.toList.drop (i * 3 + (fl x).length) := ⟨_, rfl⟩
 rw [← hA1] at hcpA
 simp only [← hA1] at h2
 have hA1l : A1.length = G * 3 := by
  rw [hA1]
  simp only [List.length_append, List.length_take, List.length_drop, fl_len, Array.length_toList, hRs]
  omega
 have hcpB : ∀ (W1 : World), W1.heap[W.heap.size]? = some (.cells A1.toArray 52 (0, 0)) → W1.heap[g]? = some (.cells cur 52 (0, 0)) → ∀ ty dc sc, (Builtin.copy_ #[47, 47] ty #[.slice (some ⟨W.heap.size, (i + 1) * 3, none⟩) (n - i) dc, .slice (some ⟨g, i * 3, none⟩) (n - i) sc]).run Try.prog W1 = .ok (goInt ((n - i : Nat) : Int)) (W1.setRow W.heap.size (A1.take (i * 3 + 3) ++ C.drop (i * 3) ++ A1.drop (i * 3 + 3 + (C.drop (i * 3)).length)).toArray) := fun W1 hN hX ty dc sc => by
  have h := run_copy_rowS (P := Try.prog) W1 47 47 ty 52 W.heap.size ((i + 1) * 3) (n - i) dc ⟨g, i * 3, none⟩ (n - i) sc A1.toArray 52 (C.drop (i * 3)) 3 (n - i) Try.underlying47 sizeNote hN (Nat.min_self _) (by rw [List.length_drop, hCl]; omega)
   (fun j v hj => by
    rw [Addr.add_lit]
    rw [List.getElem?_drop, ← hC] at hj
    simpa [World.cell?, hX] using hj) (by rw [List.length_drop, hCl, List.size_toArray, hA1l]; omega) (fun u hu => hC1 u (List.mem_of_mem_drop hu))
  rw [show i * 3 + 3 = (i + 1) * 3 by omega]
  exact h
 have hGi : ¬ (G = i) := by omega
 have hGim : ¬ (G = i + 1) := by omega
 have hni : ¬ (n = i) := by omega
 have hw1 : IntKind.i64.wrap ((i : Int) + 1) = (i : Int) + 1 := by rw [IntKind.wrap_i64]; omega
 have hb1 : (0 : Int) ≤ (i : Int) + 1 := by omega
 have htn : ((i : Int) + 1).toNat = i + 1 := by omega
 have hz2 : ¬ ((i : Int) = (n : Int)) := by omega
 have hz3 : (n : Int) < (n : Int) + 1 := by omega
 have hb3 : (i : Int) ≤ (n : Int) + 1 := by omega
 have hb5 : (i : Int) ≤ (n : Int) := by omega
 have hin : i ≤ n := by omega
 have hs1 : n + 1 - (i + 1) = n - i := by omega
 have H2 := Aside0.mk h2
 have HG := Aside0.mk hg
 have HX := Aside0.mk hx
 have HN := Aside0.mk (And.intro hGn (And.intro hGm (And.intro hA1l hRs)))
 have HGW := Aside0.mk (And.intro hgw hgxw)
 have HN1 : Aside0 (((W.alloc (.cells ROW 52)).drew).heap[W.heap.size]? = some (.cells ROW 52 (0, 0))) := ⟨heap_alloc_new W _⟩
 have hcA := hcpA ((W.alloc (.cells ROW 52)).drew) HN1.out (blk_alloc hx _)
 have hcB := hcpB (((W.alloc (.cells ROW 52)).drew.setRow W.heap.size A1.toArray).drew) (setRow_heap _ _ _ _ _ _ HN1.out) (by
  show ((W.alloc (.cells ROW 52)).drew.setRow W.heap.size A1.toArray).heap[g]? = _
  rw [setRow_other _ _ _ _ (by omega)]
  exact blk_alloc hg _)
 clear hcpA hcpB
 clear h2 hg hx hA1l hRs hRt hROW hG hA1 hCl hC hC1 hcur hcell hold hik hkk hi0 hz0 hzs hzb hgw hgxw
 go_enter Try.func94, Try.ntmps94
 go_wp2_with (at_builtin; refine Lib.wpList_append_run _ rfl _ _ _ _ rfl _ _ rfl rfl _ _ (hrz _) ?_)
 go_region_law (refine step_copy_run rfl _ _ 47 47 rfl _ _ (by simp [Act.eval, Act.put]) (by simp [Act.eval, Act.put]) (hcB _ _ _) ?_)
 go_wp2
 go_ret
 refine ⟨G, _, rfl, setRow_heap _ _ _ _ _ _ (setRow_heap _ _ _ _ _ _ HN1.out), HN.out.1, HN.out.2.1, by simpa [HN.out.2.2.2] using H2.out.1, ?_, ?_⟩
 ·rw [show (n + 1) * 3 = n * 3 + 3 by omega]
  simpa only [List.append_assoc, List.length_drop] using H2.out.2
 ·exact below_setRow (below_drew1 (below_setRow (below_drew1 (below_alloc (Below.refl _ _) _)) (Nat.le_refl _) _)) (Nat.le_refl _) _
end Go.Proofs.Ytnlfhbohcgjcbaa.PA
namespace Go.Proofs.Ytnlfhbohcgjcbaa.PA
open Go.RowKit Go.Proofs.YtnlfhbohcgjcbaaW.PrintWords Go.Proofs.YtnlfhbohcgjcbaaW.PrintLast Go.Proofs.YtnlfhbohcgjcbaaW.PrintMore
set_option linter.unusedVariables false
set_option linter.unusedSimpArgs false
set_option maxHeartbeats 4000000 in
set_option maxRecDepth 100000 in
theorem insert_end (v : Value) (A : Option Addr) (n c gx : Nat) (C : List Value) (x : Nt) (base : Nat) (W : World) (hv : v = .slice A n c) (hnc : n ≤ c) (hbig : n < 1000000) (hbase : base ≤ W.heap.size)
  (ho : W.ownsRow base 52 3 v n C)
  (hx : W.heap[gx]? = some (.cells #[.int .i64 x.f0, .int .i64 x.f1, .int .i64 x.f2] 52 (0, 0))) :
  Calls Try.prog 94 #[v, .int .i64 n, .slice (some ⟨gx, 0, none⟩) 1 1] W fun e w' => ∃ v' : Value, e = .returned v' ∧ w'.ownsRow base 52 3 v' (n + 1) (C ++ fl x) ∧ W.grownBy w' v.ownBlock := by
 obtain ⟨i0, hi0, hz0, hzs, hzb⟩ := info_parts infoNote
 subst hv
 have HO := Aside0.mk ho
 have HX := Aside0.mk hx
 have hsrc : Aside0 (∀ j u, (fl x)[j]? = some u → W.cell? ((⟨gx, 0, none⟩ : Addr).add j) = some u) := ⟨fun j u hj => by rw [Addr.add_lit]; simpa [World.cell?, hx, fl] using hj⟩
 have hI0 := Aside0.mk hi0
 have hZ := Aside0.mk hz0
 have hZs := Aside0.mk hzs
 have hZb := Aside0.mk hzb
 have HB := Aside0.mk hbase
 have HBG := Aside0.mk hbig
 clear ho hx hi0 hz0 hzs hzb hbase hbig
 have hlen : n < 1000000 := HBG.out
 by_cases hcn : c = n
 ·subst hcn
  go_enter Try.func94, Try.ntmps94
  go_wp2_with (at_builtin; refine wpList_append_own _ rfl _ _ 47 rfl base 52 i0 _ 3 24 Try.underlying47 hI0.out hZ.out hZs.out hZb.out rfl (by decide) _ _ C rfl HO.out ⟨gx, 0, none⟩ 1 1 (fl x) rfl rfl hsrc.out (fl_one x) (by unfold maxLen; omega) (by omega) HB.out ?_; intro v1 w1 ho1 hg1 _; have HO1 := Aside0.mk ho1; have HG1 := Aside0.mk hg1; clear ho1 hg1)
  go_ret
  exact ⟨_, rfl, HO1.out, HG1.out⟩
 ·go_enter Try.func94, Try.ntmps94
  go_wp2_with (at_builtin; refine wpList_append_own _ rfl _ _ 47 rfl base 52 i0 _ 3 24 Try.underlying47 hI0.out hZ.out hZs.out hZb.out rfl (by decide) _ _ C rfl HO.out ⟨gx, 0, none⟩ 1 1 (fl x) rfl rfl hsrc.out (fl_one x) (by unfold maxLen; omega) (by omega) HB.out ?_; intro v1 w1 ho1 hg1 _; have HO1 := Aside0.mk ho1; have HG1 := Aside0.mk hg1; clear ho1 hg1)
  go_ret
  exact ⟨_, rfl, HO1.out, HG1.out⟩
/-- One more at its place. -/
theorem insert_note (v : Value) (xs : List Nt) (i gx : Nat) (x : Nt) (base : Nat) (w0 W : World) (hi : i ≤ xs.length) (hbig : xs.length < 1000000) (hbase : base ≤ W.heap.size) (hB : Below base w0 W)
  (hR : Kd.R k52 52 W base (fun _ => True) v xs)
  (hx : W.heap[gx]? = some (.cells #[.int .i64 x.f0, .int .i64 x.f1, .int .i64 x.f2] 52 (0, 0))) (hne : some gx ≠ v.ownBlock) :
  Calls Try.prog 94 #[v, .int .i64 i, .slice (some ⟨gx, 0, none⟩) 1 1] W fun e w' => ∃ v' : Value, e = .returned v' ∧ Kd.R k52 52 w' base (fun _ => True) v' (insAt xs i x) ∧ Below base w0 w' := by
 have ho := (R_notes.1 hR).2
 have hl := flat_len xs
 rcases Nat.lt_or_ge i xs.length with hlt | hge
 ·obtain ⟨h1, h2⟩ := ho
  rcases h2 with ⟨_, h0⟩ | ⟨g, cap, cur, rfl, hbg, hg, hn, hcm, hcs, hct⟩
  ·omega
  ·have hne' : gx ≠ g := fun e => hne (by simp [Value.ownBlock, e])
   rcases Nat.lt_or_ge xs.length cap with hroom | hfull
   ·refine (insert_shift g xs.length cap i gx cur (flat xs) x W hlt (by omega) hcm hg hcs hct (flat_one xs) hx hne').mono ?_
    rintro e w' ⟨A2, rfl, hh, hA, ht, hk, hs, h3, h4, h5⟩
    refine ⟨_, rfl, R_notes.2 ⟨fun _ _ => trivial, ?_, .inr ⟨g, cap, A2.toArray, by rw [ins_len xs i x hi], hbg, hh, by rw [ins_len xs i x hi]; omega, hcm, by simpa using hA, ?_⟩⟩, ?_⟩
    ·rw [flat_len]
    ·rw [ins_len xs i x hi, flat_ins xs i x hi]
     exact ht
    ·exact hB.trans ⟨h3, h4, h5, by omega, fun k hk' => hk k (by omega)⟩
   ·obtain rfl : cap = xs.length := by omega
    have hct' : cur.toList = flat xs := by
     rw [← hct, List.take_of_length_le (by rw [Array.length_toList, hcs]; exact Nat.le_refl _)]
    refine (insert_grow g xs.length i gx cur (flat xs) x W hlt hbig hg hcs hct' (flat_one xs) hx).mono ?_
    rintro e w' ⟨G, A2, rfl, hh, hn1, hGm, hA, ht, hb⟩
    refine ⟨_, rfl, R_notes.2 ⟨fun _ _ => trivial, ?_, .inr ⟨W.heap.size, G, A2.toArray, by rw [ins_len xs i x hi], hbase, hh, by rw [ins_len xs i x hi]; omega, hGm, by simpa using hA, ?_⟩⟩, ?_⟩
    ·rw [flat_len]
    ·rw [ins_len xs i x hi, flat_ins xs i x hi]
     exact ht
    ·exact hB.trans (hb.mono hbase)
 ·obtain rfl : i = xs.length := by omega
  have e : insAt xs xs.length x = xs ++ [x] := by rw [insAt, List.take_length, List.drop_length]
  obtain ⟨A, c, rfl⟩ := Kd.R_slice hR
  have hnc := (Kd.R_reads' hR).2.1
  refine (insert_end _ A xs.length c gx (flat xs) x base W rfl hnc hbig hbase ho hx).mono ?_
  rintro e' w' ⟨v', rfl, ho', hg'⟩
  refine ⟨_, rfl, R_notes.2 ⟨fun _ _ => trivial, ?_⟩, ?_⟩
  ·rw [e, flat_append, List.length_append]
   exact ho'
  ·exact hB.grown hg' hbase (fun k hk => own_base ho k hk)
end Go.Proofs.Ytnlfhbohcgjcbaa.PA
namespace Go.Proofs.Ytnlfhbohcgjcbaa.PA
open Go.RowKit Go.Proofs.YtnlfhbohcgjcbaaW.PrintWords Go.Proofs.YtnlfhbohcgjcbaaW.PrintLast Go.Proofs.YtnlfhbohcgjcbaaW.PrintMore
set_option linter.unusedVariables false
set_option linter.unusedSimpArgs false
theorem infoClone52 : (Try.prog.info? 52).map (fun i => (i.zero, i.size, i.bytes)) = some (some (.agg #[(.int .i64 0), (.int .i64 0), (.int .i64 0)]), (k52).sz, 24) := by kernel_rfl
def slices_Clone_Lbits_Note_bits_Note.f (l0 : List (S52)) : Option (List (S52)) := if l0.length < 5864062014805 then some l0 else none
set_option maxHeartbeats 2000000 in
set_option maxRecDepth 100000 in
theorem slices_Clone_Lbits_Note_bits_Note.calls (A0 : Option Addr) (c0 : Nat) (l0 : List (S52)) (r : List (S52)) (w : World) (hr0 : Kd.C k52 w A0 l0.length l0) (hc0 : l0.length ≤ c0) (h : slices_Clone_Lbits_Note_bits_Note.f l0 = some r) :
  Calls Try.prog 93 #[.slice A0 l0.length c0] w fun e w' => ∃ v0_ : Value, e = .returned (v0_) ∧ Kd.R k52 52 w' w.heap.size (fun _ => True) v0_ r ∧ Below w.heap.size w w' := by
 have HR0 := Aside0.mk hr0
 have HC0 := Aside0.mk hc0
 clear hr0 hc0
 unfold slices_Clone_Lbits_Note_bits_Note.f at h
 split at h
 rotate_left
 ·cases h
 rename_i hlim
 have HL := Aside0.mk hlim
 clear hlim
 obtain rfl := Option.some.inj h
 clear h
 rcases A0 with _ | ad
 ·obtain rfl : l0 = [] := by
   cases l0 with
   | nil => rfl
   | cons x xs => obtain ⟨ad, h, _⟩ := HR0.out.2.2 (by simp); cases h
  have heq := fun W => Lib.run_eql_slice_nil (P := Try.prog) W 47 52 none 0 c0 0 0 Try.underlying47
  go_enter Try.func93, Try.ntmps93
  go_wp2
  go_ret
  exact ⟨_, rfl, Kd.R_nil _ _ _ _ _, Below.refl _ _⟩
 ·have heq := fun W => Lib.run_eql_slice_nil (P := Try.prog) W 47 52 (some ad) l0.length c0 0 0 Try.underlying47
  have HB := Aside0.mk (Below.refl w.heap.size w)
  go_enter Try.func93, Try.ntmps93
  go_wp2_with (first | ((with_reducible refine gate_dst (N := 5) rfl ?_); refine Kd.R_lit k52 _ 52 ?hg (N := 5) ?hd (xs := ([] : List (S52))) (inner := []) (ok := fun _ => True) (okp := fun _ => True) ?hr ?hp (fun _ hk => hk) trivial (Below.refl _ _) (Nat.le_refl _) (by simp) ?_; (case hd => rfl); (case hg => rfl); (case hr => first | (go_simp; done) | (go_simp; rfl)); (case hp => exact (Reps.none _ _)); intro v5 w5 ho5 hb5 hg5 hn5; clear hg5 hn5; have HO5 := Aside0.mk ho5; have HB5 := Aside0.mk hb5; clear ho5 hb5) | ((with_reducible refine gate_builtin (b := .append) (xs := #[.tmp 5, .tmp 6]) rfl ?_); at_builtin; refine Kd.R_append_rows k52 (w0 := w) w.heap.size rfl (.tmp 5) (.tmp 6) 47 52 (.agg #[(.int .i64 0), (.int .i64 0), (.int .i64 0)]) 24 rfl Try.underlying47 infoClone52 rfl (by decide) (by omega) v5 [] l0 _ _ _ (fun _ => True) (fun _ => False) rfl rfl ?aO ?aR (fun _ _ h => h) (fun _ h => h.elim) ?aF ?aB ?aS ?aL ?_; (case aR => exact Kd.C_below HR0.out HB5.out); (case aB => exact HB5.out); (case aF => exact fun _ _ => trivial); (case aO => exact HO5.out); (case aS => exact HB5.out.size); (case aL => have := HL.out; simp; omega); intro v7 w7 ho7 hb7 hg7 hat7; clear hg7 hat7; have HO7 := Aside0.mk ho7; have HB7 := Aside0.mk hb7; clear ho7 hb7))
  go_ret
  exact ⟨_, rfl, by simpa using HO7.out, HB7.out⟩
def bits_Add.f (k : Nat) (l0 : List (S52)) (a1 : Int) (a2 : Int) (a3 : Int) : Option (List (S52)) :=
 (bits_notes_find.f k l0 a1 a2).bind fun t => if l0.length < 1000000 then (if t.2 = true ∨ (a3 ≠ 1 ∧ a3 ≠ 2) then some l0 else if 0 ≤ t.1 ∧ t.1 ≤ l0.length then some (insAt l0 t.1.toNat ⟨a1, a2, a3⟩) else none) else none
set_option maxHeartbeats 4000000 in
set_option maxRecDepth 100000 in
theorem bits_Add.calls (k : Nat) (A0 : Option Addr) (c0 : Nat) (l0 : List (S52)) (a1 : Int) (a2 : Int) (a3 : Int) (r : List (S52)) (w : World) (hr0 : Kd.C k52 w A0 l0.length l0) (hc0 : l0.length ≤ c0) (h : bits_Add.f k l0 a1 a2 a3 = some r) :
  Calls Try.prog 38 #[.slice A0 l0.length c0, .int .i64 a1, .int .i64 a2, .int .i64 a3] w fun e w' => ∃ v0_ : Value, e = .returned (v0_) ∧ Kd.R k52 52 w' w.heap.size (fun _ => True) v0_ r ∧ Below w.heap.size w w' := by
 unfold bits_Add.f at h
 obtain ⟨⟨at_, is_⟩, h1, h⟩ := Option.bind_eq_some_iff.1 h
 dsimp only at h
 by_cases hl : l0.length < 1000000
 case neg => rw [if_neg hl] at h; cases h
 rw [if_pos hl] at h
 have HL := Aside0.mk hl
 have HR0 := Aside0.mk hr0
 have HC0 := Aside0.mk hc0
 have H1 := Aside0.mk h1
 clear hr0 hc0 h1 hl
 by_cases hc : is_ = true ∨ (a3 ≠ 1 ∧ a3 ≠ 2)
 ·rw [if_pos hc] at h
  obtain rfl := Option.some.inj h
  clear h
  have hways : is_ = true ∨ (is_ = false ∧ (a3 != 1) = true ∧ (a3 != 2) = true) := by
   cases is_ with
   | true => exact .inl rfl
   | false =>
    rcases hc with hc | hc
    ·cases hc
    ·exact .inr ⟨rfl, bne_iff_ne.2 hc.1, bne_iff_ne.2 hc.2⟩
  clear hc
  have HCl : Aside0 (slices_Clone_Lbits_Note_bits_Note.f l0 = some l0) := ⟨by unfold slices_Clone_Lbits_Note_bits_Note.f; rw [if_pos (by have := HL.out; omega)]⟩
  rcases hways with rfl | ⟨rfl, e1, e2⟩
  ·go_enter Try.func38, Try.ntmps38
   go_wp2_with fail
   refine (bits_notes_find.calls k A0 c0 l0 a1 a2 at_ _ w HR0.out HC0.out H1.out).mono ?_
   rintro e w1 ⟨rfl, hb1⟩
   have HB1 := Aside0.mk hb1
   clear hb1
   go_wp2_with fail
   refine (slices_Clone_Lbits_Note_bits_Note.calls A0 c0 l0 l0 w1 (Kd.C_below HR0.out HB1.out) HC0.out HCl.out).mono ?_
   rintro e w2 ⟨v, rfl, ho, hb2⟩
   have HO := Aside0.mk (Kd.R_lower ho HB1.out.size)
   have HB2 := Aside0.mk (below_step HB1.out hb2)
   clear ho hb2
   go_wp2
   go_ret
   exact ⟨_, rfl, HO.out, HB2.out⟩
  ·go_enter Try.func38, Try.ntmps38
   go_wp2_with fail
   refine (bits_notes_find.calls k A0 c0 l0 a1 a2 at_ _ w HR0.out HC0.out H1.out).mono ?_
   rintro e w1 ⟨rfl, hb1⟩
   have HB1 := Aside0.mk hb1
   clear hb1
   go_wp2_with fail
   refine (slices_Clone_Lbits_Note_bits_Note.calls A0 c0 l0 l0 w1 (Kd.C_below HR0.out HB1.out) HC0.out HCl.out).mono ?_
   rintro e w2 ⟨v, rfl, ho, hb2⟩
   have HO := Aside0.mk (Kd.R_lower ho HB1.out.size)
   have HB2 := Aside0.mk (below_step HB1.out hb2)
   clear ho hb2
   go_wp2
   go_ret
   exact ⟨_, rfl, HO.out, HB2.out⟩
 ·rw [if_neg hc] at h
  by_cases hat : 0 ≤ at_ ∧ at_ ≤ l0.length
  case neg => rw [if_neg hat] at h; cases h
  rw [if_pos hat] at h
  obtain rfl := Option.some.inj h
  clear h
  have HCl : Aside0 (slices_Clone_Lbits_Note_bits_Note.f l0 = some l0) := ⟨by unfold slices_Clone_Lbits_Note_bits_Note.f; rw [if_pos (by have := HL.out; omega)]⟩
  obtain ⟨i, rfl⟩ := Int.eq_ofNat_of_zero_le hat.1
  rw [Int.toNat_natCast]
  have hi : i ≤ l0.length := by omega
  have HI := Aside0.mk hi
  clear hat hi
  have hways : is_ = false ∧ ((a3 != 1) = false ∨ (a3 != 1) = true ∧ (a3 != 2) = false) := by
   cases is_ with
   | true => exact absurd (Or.inl rfl) hc
   | false =>
    refine ⟨rfl, ?_⟩
    by_cases e1 : a3 = 1
    ·exact .inl (bne_eq_false_iff_eq.2 e1)
    ·refine .inr ⟨bne_iff_ne.2 e1, ?_⟩
     by_cases e2 : a3 = 2
     ·exact bne_eq_false_iff_eq.2 e2
     ·exact absurd (Or.inr ⟨e1, e2⟩) hc
  clear hc
  obtain ⟨rfl, hways⟩ := hways
  rcases hways with e1 | ⟨e1, e2⟩
  ·go_enter Try.func38, Try.ntmps38
   go_wp2_with fail
   refine (bits_notes_find.calls k A0 c0 l0 a1 a2 (i : Int) _ w HR0.out HC0.out H1.out).mono ?_
   rintro e w1 ⟨rfl, hb1⟩
   have HB1 := Aside0.mk hb1
   clear hb1
   go_wp2_with fail
   refine (slices_Clone_Lbits_Note_bits_Note.calls A0 c0 l0 l0 w1 (Kd.C_below HR0.out HB1.out) HC0.out HCl.out).mono ?_
   rintro e w2 ⟨v, rfl, ho, hb2⟩
   have HO := Aside0.mk (Kd.R_lower ho HB1.out.size)
   have HB2 := Aside0.mk (below_step HB1.out hb2)
   clear ho hb2
   go_wp2_with fail
   refine (insert_note v l0 i w2.heap.size (⟨a1, a2, a3⟩ : Nt) w.heap.size w (w2.alloc (.cells #[.int .i64 a1, .int .i64 a2, .int .i64 a3] 52)) HI.out HL.out (by have := HB2.out.size; simp only [World.alloc, Array.size_push]; omega) (below_alloc HB2.out _) (Kd.R_alloc HO.out _) (heap_alloc_new w2 _) (by simpa using Kd.R_ne_new HO.out 0)).mono ?_
   rintro e w3 ⟨v3, rfl, ho3, hb3⟩
   have HO3 := Aside0.mk ho3
   have HB3 := Aside0.mk hb3
   clear ho3 hb3
   go_wp2
   go_ret
   exact ⟨_, rfl, HO3.out, HB3.out⟩
  ·go_enter Try.func38, Try.ntmps38
   go_wp2_with fail
   refine (bits_notes_find.calls k A0 c0 l0 a1 a2 (i : Int) _ w HR0.out HC0.out H1.out).mono ?_
   rintro e w1 ⟨rfl, hb1⟩
   have HB1 := Aside0.mk hb1
   clear hb1
   go_wp2_with fail
   refine (slices_Clone_Lbits_Note_bits_Note.calls A0 c0 l0 l0 w1 (Kd.C_below HR0.out HB1.out) HC0.out HCl.out).mono ?_
   rintro e w2 ⟨v, rfl, ho, hb2⟩
   have HO := Aside0.mk (Kd.R_lower ho HB1.out.size)
   have HB2 := Aside0.mk (below_step HB1.out hb2)
   clear ho hb2
   go_wp2_with fail
   refine (insert_note v l0 i w2.heap.size (⟨a1, a2, a3⟩ : Nt) w.heap.size w (w2.alloc (.cells #[.int .i64 a1, .int .i64 a2, .int .i64 a3] 52)) HI.out HL.out (by have := HB2.out.size; simp only [World.alloc, Array.size_push]; omega) (below_alloc HB2.out _) (Kd.R_alloc HO.out _) (heap_alloc_new w2 _) (by simpa using Kd.R_ne_new HO.out 0)).mono ?_
   rintro e w3 ⟨v3, rfl, ho3, hb3⟩
   have HO3 := Aside0.mk ho3
   have HB3 := Aside0.mk hb3
   clear ho3 hb3
   go_wp2
   go_ret
   exact ⟨_, rfl, HO3.out, HB3.out⟩
end Go.Proofs.Ytnlfhbohcgjcbaa.PA
namespace Go.Proofs.Ytnlfhbohcgjcbaa.PA.DelMissing
open Go.RowKit Go.Proofs.YtnlfhbohcgjcbaaW.PrintWords Go.Proofs.YtnlfhbohcgjcbaaW.PrintLast Go.Proofs.YtnlfhbohcgjcbaaW.PrintMore
set_option linter.unusedVariables false
set_option linter.unusedSimpArgs false
/-- The first one that is asked for, from place i on. -/
def idxQ (q : Int → Option Bool) : List Int → Int → Option Int
 | [], _ => some (-1)
 | x :: xs, i => (q x).bind fun b => if b = true then some i else idxQ q xs (i + 1)
/-- Those that are not asked for. -/
def keepQ (q : Int → Option Bool) : List Int → Option (List Int)
 | [] => some []
 | x :: xs => (q x).bind fun b => (keepQ q xs).bind fun l => some (if b = true then l else x :: l)
/-- All but block o is as it was. -/
def Fr (w W : World) (o : Option Nat) : Prop := W.heap.size = w.heap.size ∧ (∀ k, some k ≠ o → W.heap[k]? = w.heap[k]?) ∧ W.os = w.os ∧ W.tape = w.tape ∧ W.output = w.output
theorem Fr.refl (w : World) (o : Option Nat) : Fr w w o := ⟨rfl, fun _ _ => rfl, rfl, rfl, rfl⟩
theorem Fr.drawn {w W W1 : World} {o : Option Nat} (h : Fr w W o) (hd : Drawn0 W W1) : Fr w W1 o := by
 obtain ⟨n, rfl⟩ := hd.out
 exact h
theorem Fr.drewN {w W : World} {o : Option Nat} (h : Fr w W o) (n : Nat) : Fr w (W.drewN n) o := h
theorem Fr.set {w W : World} {g : Nat} (h : Fr w W (some g)) (i : Nat) (u : Value) : Fr w (W.setCell ⟨g, i, none⟩ u) (some g) :=
 ⟨by rw [← h.1]; simp, fun k hk => by rw [Below.heap_setCell W ⟨g, i, none⟩ u k (fun e => hk (by rw [e]))]; exact h.2.1 k hk, h.2.2.1, h.2.2.2.1, h.2.2.2.2⟩
theorem Fr.row {w W : World} {g : Nat} (h : Fr w W (some g)) (cs : Array Value) : Fr w (W.setRow g cs) (some g) :=
 ⟨by rw [← h.1]; simp [World.setRow], fun k hk => by rw [setRow_other W g k cs (fun e => hk (by rw [e]))]; exact h.2.1 k hk, h.2.2.1, h.2.2.2.1, h.2.2.2.2⟩
theorem Fr.below {w W : World} {o : Option Nat} {B : Nat} (h : Fr w W o) (hB : ∀ k, o = some k → B ≤ k) : Below B w W := ⟨h.2.2.1, h.2.2.2.1, h.2.2.2.2, Nat.le_of_eq h.1.symm, fun k hk => h.2.1 k (fun e => by have := hB k e.symm; omega)⟩
set_option maxHeartbeats 4000000 in
set_option maxRecDepth 100000 in
theorem idx_calls (q : Int → Option Bool) (cv : Value) (A0 : Option Addr) (c0 : Nat) (l0 : List Int) (r : Int) (w : World) (hr0 : Kd.C (Kd.int .i64) w A0 l0.length l0)
  (hq : ∀ W, Drawn0 w W → ∀ x b, q x = some b → Calls Try.prog 92 #[Value.int .i64 x, cv] W fun e w' => e = .returned (.bool b) ∧ Drawn0 W w') (h : idxQ q l0 0 = some r) :
  Calls Try.prog 135 #[.slice A0 l0.length c0, .func (.func 92) #[] #[cv]] w fun e w' => e = .returned (.int .i64 r) ∧ Drawn0 w w' := by
 have HR0 := Aside0.mk hr0
 have hm := Kd.C_max hr0
 have HQ := Aside0.mk hq
 have H := Aside0.mk h
 clear hr0 h hq
 go_enter Try.func135, Try.ntmps135
 go_wp2_with fail
 go_loopw [8] (fun v8 w' => ∃ j : Nat, j ≤ l0.length ∧ v8 = .int .i64 j ∧ Aside0 (idxQ q (l0.drop j) j = some r) ∧ Drawn0 w w') (fun v8 _ => l0.length - (intOf v8).toNat)
 case atStart => exact ⟨0, Nat.zero_le _, rfl, ⟨by simpa using H.out⟩, Drawn0.refl _⟩
 case round =>
  obtain ⟨j, hj, rfl, HI, ⟨m, rfl⟩⟩ := hrel
  by_cases hlt : j < l0.length
  ·have p1 : 0 ≤ ((j : Int)) := by omega
   have q1 : ((j : Int)) < (l0.length : Int) := by omega
   obtain ⟨ad, e1, hx⟩ := Kd.at_int HR0.out (j : Int) p1 q1
   cases e1
   have hd : l0.drop j = rd l0 (j : Int) :: l0.drop (j + 1) := by
    rw [List.drop_eq_getElem_cons hlt]
    simp [rd, rdOf, List.getD_eq_getElem?_getD, List.getElem?_eq_getElem hlt]
   have HI2 := HI.out
   rw [hd] at HI2
   simp only [idxQ] at HI2
   obtain ⟨b, hs, h2⟩ := Option.bind_eq_some_iff.1 HI2
   clear HI2 hd HI
   have HS := Aside0.mk hs
   clear hs
   have hx' : w.cell? (ad.add j) = some (Value.int .i64 (rd l0 (j : Int))) := by simpa using hx
   clear hx p1 q1
   obtain ⟨x, hxe⟩ : ∃ x, rd l0 (j : Int) = x := ⟨_, rfl⟩
   rw [hxe] at hx' HS
   clear hxe
   have HT := Aside0.mk (HQ.out (w.drewN m) ⟨m, rfl⟩ x b HS.out)
   cases b with
   | true =>
    rw [if_pos rfl] at h2
    obtain rfl := Option.some.inj h2
    clear h2
    go_wp2_with (go_at_call 92; (with_reducible refine HT.out.mono ?_); rintro e w' ⟨rfl, ⟨nd, rfl⟩⟩)
    go_ret
    exact ⟨rfl, by repeat (first | exact Drawn0.refl _ | apply Drawn0.step)⟩
   | false =>
    rw [if_neg (by decide)] at h2
    have HI3 := Aside0.mk h2
    clear h2
    go_wp2_with (go_at_call 92; (with_reducible refine HT.out.mono ?_); rintro e w' ⟨rfl, ⟨nd, rfl⟩⟩)
    go_roundw
    case rel => exact ⟨j + 1, by omega, by go_num, ⟨by simpa using HI3.out⟩, by repeat (first | exact Drawn0.refl _ | apply Drawn0.step)⟩
    case measure => simp [intOf]; omega
  ·have hjl : j = l0.length := by omega
   have HI2 := HI.out
   rw [hjl, List.drop_length] at HI2
   obtain rfl := Option.some.inj HI2
   have hd1 : decide (j < l0.length) = false := decide_eq_false hlt
   clear HI2 hjl HI
   go_wp2_with fail
   go_ret
   exact ⟨rfl, by repeat (first | exact Drawn0.refl _ | apply Drawn0.step)⟩
theorem idxQ_ge (q : Int → Option Bool) : ∀ (l : List Int) (i r : Int), 0 ≤ i → idxQ q l i = some r → (r = -1 ∧ keepQ q l = some l) ∨ ∃ j : Nat, r = i + j ∧ j < l.length ∧ ∀ m, keepQ q (l.drop (j + 1)) = some m → keepQ q l = some (l.take j ++ m)
 | [], i, r, h0, h => by
  simp only [idxQ, Option.some.injEq] at h
  exact .inl ⟨h.symm, rfl⟩
 | x :: xs, i, r, h0, h => by
  simp only [idxQ] at h
  obtain ⟨b, hb, h⟩ := Option.bind_eq_some_iff.1 h
  cases b with
  | true =>
   rw [if_pos rfl] at h
   obtain rfl := Option.some.inj h
   refine .inr ⟨0, by omega, by simp, fun m hm => ?_⟩
   simp only [keepQ, hb, Option.bind_some]
   rw [show xs = (x :: xs).drop (0 + 1) from rfl, hm]
   simp
  | false =>
   rw [if_neg (by decide)] at h
   rcases idxQ_ge q xs (i + 1) r (by omega) h with ⟨rfl, hk⟩ | ⟨j, rfl, hj, hk⟩
   ·exact .inl ⟨rfl, by simp [keepQ, hb, hk]⟩
   ·refine .inr ⟨j + 1, by omega, by simpa using hj, fun m hm => ?_⟩
    have := hk m (by simpa using hm)
    simp [keepQ, hb, this]
theorem keepQ_drop (q : Int → Option Bool) : ∀ (l r : List Int) (j : Nat), keepQ q l = some r → ∃ m, keepQ q (l.drop j) = some m
 | l, r, 0, h => ⟨r, by simpa using h⟩
 | [], r, j + 1, h => ⟨[], rfl⟩
 | x :: xs, r, j + 1, h => by
  simp only [keepQ] at h
  obtain ⟨b, hb, h⟩ := Option.bind_eq_some_iff.1 h
  obtain ⟨m, hm, h⟩ := Option.bind_eq_some_iff.1 h
  exact keepQ_drop q xs m j hm
theorem idxQ_some (q : Int → Option Bool) : ∀ (l r : List Int) (i : Int), keepQ q l = some r → ∃ j, idxQ q l i = some j
 | [], r, i, h => ⟨-1, rfl⟩
 | x :: xs, r, i, h => by
  simp only [keepQ] at h
  obtain ⟨b, hb, h⟩ := Option.bind_eq_some_iff.1 h
  obtain ⟨m, hm, h⟩ := Option.bind_eq_some_iff.1 h
  cases b with
  | true => exact ⟨i, by simp [idxQ, hb]⟩
  | false =>
   obtain ⟨j, hj⟩ := idxQ_some q xs m (i + 1) hm
   exact ⟨j, by simp [idxQ, hb, hj]⟩
theorem run_clear_row {P : Program} (w : World) (t ty elem : TypeId) (g o n c : Nat) (cur : Array Value) (te : TypeId) (hu : P.underlying t = some (.slice elem)) (hz : (zeroValue elem).run P w = .ok (Value.int .i64 0) w)
  (hg : w.heap[g]? = some (.cells cur te (0, 0))) (hn : 0 < n) (hfit : o + n ≤ cur.size) :
  (Builtin.clear_ #[t] ty #[.slice (some ⟨g, o, none⟩) n c]).run P w = .ok (.tuple #[]) (w.setRow g (cur.toList.take o ++ List.replicate n (Value.int .i64 0) ++ cur.toList.drop (o + n)).toArray) := by
 have hst := run_storeCells_at P g o te (List.replicate n (Value.int .i64 0)) 0 cur w hg (by simpa using hfit) (fun u hu => by rw [(List.mem_replicate.1 hu).2]; rfl)
 obtain ⟨m, rfl⟩ : ∃ m, n = m + 1 := ⟨n - 1, by omega⟩
 have e : (Builtin.zeroCells (Value.cells (Value.int .i64 0)) (m + 1)).toList = List.replicate (m + 1) (Value.int .i64 0) := by
  simp [Builtin.zeroCells, Value.cells]
  refine List.eq_replicate_iff.2 ⟨by simp, fun b hb => ?_⟩
  obtain ⟨a, _, rfl⟩ := List.mem_map.1 hb
  simp [Nat.mod_one]
 simp [Builtin.clear_, run_underlying hu, hz, e]
 simp at hst
 rw [hst]
 simp
set_option maxHeartbeats 8000000 in
set_option maxRecDepth 100000 in
theorem del_calls (q : Int → Option Bool) (cv v : Value) (l0 r : List Int) (base : Nat) (w : World) (ho : Kd.R (Kd.int .i64) 3 w base (fun _ => True) v l0)
  (hq : ∀ W, Fr w W v.ownBlock → ∀ x b, q x = some b → Calls Try.prog 92 #[Value.int .i64 x, cv] W fun e w' => e = .returned (.bool b) ∧ Drawn0 W w') (h : keepQ q l0 = some r) :
  Calls Try.prog 91 #[v, .func (.func 92) #[] #[cv]] w fun e w' => ∃ v' : Value, e = .returned v' ∧ Kd.R (Kd.int .i64) 3 w' base (fun _ => True) v' r ∧ Fr w w' v.ownBlock := by
 obtain ⟨A, c, rfl⟩ := Kd.R_slice ho
 obtain ⟨i, hi⟩ := idxQ_some q l0 r 0 h
 have HC := (Kd.R_reads' ho).2.2
 have HO := Aside0.mk ho
 have HQ := Aside0.mk hq
 have HI := Aside0.mk (idx_calls q cv A c l0 i w HC (fun W hd => hq W ((Fr.refl w _).drawn hd)) hi)
 rcases idxQ_ge q l0 0 i (by omega) hi with ⟨rfl, hk⟩ | ⟨j0, rfl, hj0, hk⟩
 ·obtain rfl : l0 = r := Option.some.inj (hk.symm.trans h)
  clear ho hq hi hk h HC
  go_enter Try.func91, Try.ntmps91
  go_wp2_with fail
  refine HI.out.mono ?_
  rintro e w1 ⟨rfl, ⟨nd, rfl⟩⟩
  go_wp2
  go_ret
  exact ⟨_, rfl, HO.out, (Fr.refl w _).drewN nd⟩
 ·obtain ⟨m0, hm0⟩ := keepQ_drop q l0 r (j0 + 1) h
  obtain rfl : l0.take j0 ++ m0 = r := Option.some.inj ((hk m0 hm0).symm.trans h)
  have hown := Kd.own_of_R ho
  obtain ⟨hl1, h2⟩ := hown
  rcases h2 with ⟨he, h0⟩ | ⟨g, cap, cur, he, hbg, hg, hn, hcm, hcs, hct⟩
  ·omega
  ·injection he with he1 he2 he3
   subst he1
   subst he3
   obtain ⟨tl, htl⟩ : ∃ tl, cur.toList.drop l0.length = tl := ⟨_, rfl⟩
   have hcur : cur = (encs (Value.int .i64) l0 ++ tl).toArray := by
    rw [← htl, ← hct, Nat.mul_one, List.take_append_drop]
   have htll : l0.length + tl.length = c := by
    have e1 := Array.length_toList (xs := cur)
    rw [← htl, List.length_drop]
    omega
   rw [hcur] at hg
   have HG := Aside0.mk hg
   have HN := Aside0.mk (And.intro htll (And.intro hbg (And.intro hn hcm)))
   have HM := Aside0.mk hm0
   have hc63 : c ≤ 9223372036854775807 := by unfold maxLen at hcm; omega
   have hnl : l0.length ≤ c := hn
   have HI2 : Aside0 (Calls Try.prog 135 #[.slice (some ⟨g, 0, none⟩) l0.length c, .func (.func 92) #[] #[cv]] w fun e w' => e = .returned (.int .i64 (j0 : Int)) ∧ Drawn0 w w') := ⟨by have h_ := HI.out; rwa [Int.zero_add] at h_⟩
   have hj1 : ((j0 : Int) == -1) = false := by
    rw [beq_eq_false_iff_ne]
    omega
   clear ho hq hi hk h HC hct hcs hg hcur htl hm0 htll hbg hn hcm hl1 HI HO
   go_enter Try.func91, Try.ntmps91
   go_wp2_with fail
   refine HI2.out.mono ?_
   rintro e w1 ⟨rfl, ⟨nd, rfl⟩⟩
   go_wp2_with fail
   go_loopw [5, 6, 7] (fun v5 v6 v7 w' => ∃ (i j : Nat) (L : List Int), i < j ∧ j ≤ l0.length ∧ L.length = l0.length ∧ v5 = .int .i64 i ∧ v6 = .int .i64 j ∧ Aside0 (∃ m, keepQ q (L.drop j) = some m ∧ l0.take j0 ++ m0 = L.take i ++ m) ∧ Aside0 (Fr w w' (some g)) ∧ Aside0 (w'.heap[g]? = some (.cells (encs (Value.int .i64) L ++ tl).toArray 3 (0, 0)))) (fun _ v6 _ _ => l0.length - (intOf v6).toNat)
   case atStart => exact ⟨j0, j0 + 1, l0, by omega, by omega, rfl, rfl, by go_num, ⟨m0, HM.out, rfl⟩, ⟨(Fr.refl w _).drewN nd⟩, HG⟩
   case round =>
    obtain ⟨i, j, L, hij, hjn, hLn, rfl, rfl, HK, HF, HB⟩ := hrel
    by_cases hlt : j < l0.length
    ·have hLj : j < L.length := by omega
     obtain ⟨x, hx⟩ : ∃ x, L[j]'hLj = x := ⟨_, rfl⟩
     have hcell : wr.cell? ⟨g, j, none⟩ = some (Value.int .i64 x) := by
      have h1 := blk_cell HB.out j
      rw [h1]
      simp [encs, List.getElem?_append_left, hLj, hx]
     have hfz := blk_frozen HB.out i
     obtain ⟨y, hci⟩ : ∃ y, wr.cell? ⟨g, i, none⟩ = some (Value.int .i64 y) := by
      have h1 := blk_cell HB.out i
      have : i < L.length := by omega
      exact ⟨L[i], by rw [h1]; simp [encs, List.getElem?_append_left, this]⟩
     obtain ⟨m, hm, hr⟩ := HK.out
     rw [List.drop_eq_getElem_cons hLj, hx] at hm
     simp only [keepQ] at hm
     obtain ⟨b, hb, hm⟩ := Option.bind_eq_some_iff.1 hm
     obtain ⟨m', hm', hm⟩ := Option.bind_eq_some_iff.1 hm
     have hme := Option.some.inj hm
     have HT := Aside0.mk (HQ.out wr HF.out x b hb)
     have HMM := Aside0.mk hm'
     have HR := Aside0.mk hr
     have HME := Aside0.mk hme
     have HLN := Aside0.mk hLn
     have HX := Aside0.mk hx
     have hil : i < l0.length := by omega
     clear hm hm' hr hme hb HK hx hLn
     cases b with
     | true =>
      have e := HME.out
      rw [if_pos rfl] at e
      have HE := Aside0.mk e
      clear e HME
      go_wp2_with (go_at_call 92; (with_reducible refine HT.out.mono ?_); rintro e w' ⟨rfl, ⟨nd2, rfl⟩⟩)
      go_roundw
      case rel => exact ⟨i, j + 1, L, by omega, by omega, HLN.out, rfl, by go_num, ⟨m', HMM.out, by rw [HE.out]; exact HR.out⟩, ⟨HF.out.drewN nd2⟩, HB⟩
      case measure => simp [intOf]; omega
     | false =>
      have e := HME.out
      rw [if_neg (by decide)] at e
      have HE := Aside0.mk e
      clear e HME
      go_wp2_with (go_at_call 92; (with_reducible refine HT.out.mono ?_); rintro e w' ⟨rfl, ⟨nd2, rfl⟩⟩)
      go_roundw
      case rel =>
       refine ⟨i + 1, j + 1, L.set i x, by omega, by omega, by rw [List.length_set]; exact HLN.out, by go_num, by go_num, ⟨m', ?_, ?_⟩, ⟨(HF.out.drewN nd2).set i _⟩, ⟨?_⟩⟩
       ·rw [List.drop_set_of_lt (by omega)]
        exact HMM.out
       ·have hiL : i < L.length := by have := HLN.out; omega
        rw [HR.out, ← HE.out, List.take_succ_eq_append_getElem (by rw [List.length_set]; exact hiL), List.getElem_set_self, List.take_set_of_le (Nat.le_refl _)]
        simp
       ·have h1 := blk_set (w := wr.drewN nd2) (g := g) HB.out i (Value.int .i64 x)
        rw [h1]
        congr 2
        have hiL : i < L.length := by have := HLN.out; omega
        apply Array.ext'
        simp [encs, List.set_append_left, hiL]
      case measure => simp [intOf]; omega
    ·obtain rfl : j = l0.length := by omega
     obtain ⟨m, hm, hr⟩ := HK.out
     rw [List.drop_of_length_le (by omega)] at hm
     simp only [keepQ, Option.some.injEq] at hm
     subst hm
     rw [List.append_nil] at hr
     have HR := Aside0.mk hr
     have HLN := Aside0.mk hLn
     clear HK hr hLn
     have hd1 : decide (l0.length < l0.length) = false := decide_eq_false hlt
     have hci : ¬ (c = i) := by omega
     have hil : i ≤ c := by omega
     have hil2 : i ≤ l0.length := by omega
     have hpos : 0 < l0.length - i := by omega
     have hclr : ∀ ty, (Builtin.clear_ #[41] ty #[.slice (some ⟨g, i, none⟩) (l0.length - i) (c - i)]).run Try.prog wr = .ok (.tuple #[]) (wr.setRow g ((encs (Value.int .i64) L ++ tl).take i ++ List.replicate (l0.length - i) (Value.int .i64 0) ++ (encs (Value.int .i64) L ++ tl).drop (i + (l0.length - i))).toArray) := fun ty =>
      run_clear_row wr 41 ty 3 g i (l0.length - i) (c - i) (encs (Value.int .i64) L ++ tl).toArray 3 Try.underlying41 (by obtain ⟨i0, hi0, hz0, _, _⟩ := info_parts info3; simp [zeroValue, typeInfo, hi0, hz0]) HB.out hpos (by have := HLN.out; have := HN.out.1; simp [encs]; omega)
     obtain ⟨Z, hZ⟩ : ∃ Z, Z = (encs (Value.int .i64) L ++ tl).take i ++ List.replicate (l0.length - i) (Value.int .i64 0) ++ (encs (Value.int .i64) L ++ tl).drop (i + (l0.length - i)) := ⟨_, rfl⟩
     rw [← hZ] at hclr
     have HZ := Aside0.mk hZ
     clear hZ
     go_wp2_with fail
     go_ret
     refine ⟨_, rfl, Kd.R_of_own ⟨?_, .inr ⟨g, c, Z.toArray, ?_, HN.out.2.1, setRow_heap _ _ _ _ _ _ HB.out, ?_, HN.out.2.2.2, ?_, ?_⟩⟩ (fun _ _ => trivial), HF.out.row _⟩
     ·simp [encs]
     ·rw [HR.out, List.length_take, HLN.out, Nat.min_eq_left hil2]
      rfl
     ·rw [HR.out, List.length_take, HLN.out]; omega
     ·have := HLN.out
      have := HN.out.1
      rw [HZ.out]
      simp [encs]
      omega
     ·have h1 := HLN.out
      rw [HZ.out, HR.out, List.append_assoc, Nat.mul_one]
      simp only [List.length_take, h1, Nat.min_eq_left hil2]
      rw [List.take_append_of_le_length (by simp [encs]; omega), List.take_take, Nat.min_self, List.take_append_of_le_length (by simp [encs]; omega)]
      simp [encs, List.map_take]
end Go.Proofs.Ytnlfhbohcgjcbaa.PA.DelMissing
namespace Go.Proofs.Ytnlfhbohcgjcbaa.PA
open Go.RowKit Go.Proofs.YtnlfhbohcgjcbaaW.PrintWords Go.Proofs.YtnlfhbohcgjcbaaW.PrintLast Go.Proofs.YtnlfhbohcgjcbaaW.PrintMore
set_option linter.unusedVariables false
set_option linter.unusedSimpArgs false
/-- Has it said something? -/
def saidQ (row : List Int) (s : Int) : Option Bool := (bits_said.f row s).bind fun r => some (r != 0)
set_option maxHeartbeats 2000000 in
set_option maxRecDepth 100000 in
theorem missing1_calls (A2 : Option Addr) (c2 : Nat) (l2 : List Int) (s : Int) (r : Bool) (b5 : Nat) (w : World) (hc : w.cell? ⟨b5, 0, none⟩ = some (.slice A2 l2.length c2)) (hr2 : Kd.C (Kd.int .i64) w A2 l2.length l2) (hc2 : l2.length ≤ c2) (h : saidQ l2 s = some r) :
  Calls Try.prog 92 #[.int .i64 s, .pointer (some ⟨b5, 0, none⟩)] w fun e w' => e = .returned (.bool r) ∧ Drawn0 w w' := by
 unfold saidQ at h
 obtain ⟨x, hx, h⟩ := Option.bind_eq_some_iff.1 h
 obtain rfl := Option.some.inj h
 have HX := Aside0.mk hx
 have HR := Aside0.mk hr2
 have HC := Aside0.mk hc2
 clear hx hr2 hc2 h
 go_enter Try.func92, Try.ntmps92
 go_wp2_with fail
 refine (bits_said.calls A2 c2 l2 s x w HR.out HC.out HX.out).mono ?_
 rintro e w' ⟨rfl, ⟨nd, rfl⟩⟩
 go_wp2
 go_ret
 exact ⟨rfl, ⟨⟨nd, rfl⟩⟩⟩
def bits_Missing.f (k : Nat) (a0_0 : Int) (a0_1 : Int) (l0_2 : List (S24)) (l0_3 : List (S27)) (a1 : Int) (l2 : List Int) : Option (List Int) :=
 (bits_Verdict.f k a0_0 a0_1 l0_2 l0_3 a1 l2).bind fun v => if v = 0 then (txn_Reads.f k a0_0 a0_1 l0_2 l0_3 a1).bind fun l => DelMissing.keepQ (saidQ l2) l else some []
set_option maxHeartbeats 4000000 in
set_option maxRecDepth 100000 in
theorem bits_Missing.calls (k : Nat) (a0_0 : Int) (a0_1 : Int) (A0_2 : Option Addr) (c0_2 : Nat) (l0_2 : List (S24)) (A0_3 : Option Addr) (c0_3 : Nat) (l0_3 : List (S27)) (a1 : Int) (A2 : Option Addr) (c2 : Nat) (l2 : List Int) (r : List Int) (w : World) (hr0_2 : Kd.C k24 w A0_2 l0_2.length l0_2) (hc0_2 : l0_2.length ≤ c0_2) (hr0_3 : Kd.C k27 w A0_3 l0_3.length l0_3) (hc0_3 : l0_3.length ≤ c0_3) (hr2 : Kd.C (Kd.int .i64) w A2 l2.length l2) (hc2 : l2.length ≤ c2) (h : bits_Missing.f k a0_0 a0_1 l0_2 l0_3 a1 l2 = some r) :
  Calls Try.prog 36 #[.agg #[.int .i64 a0_0, .int .i64 a0_1, .slice A0_2 l0_2.length c0_2, .slice A0_3 l0_3.length c0_3], .int .i64 a1, .slice A2 l2.length c2] w fun e w' => ∃ v0_ : Value, e = .returned (v0_) ∧ Kd.R (Kd.int .i64) 3 w' w.heap.size (fun _ => True) v0_ r ∧ Below w.heap.size w w' := by
 have hu := Try.underlying30
 have HR2 := Aside0.mk hr0_2
 have HR3 := Aside0.mk hr0_3
 have HRow := Aside0.mk hr2
 have HC2 := Aside0.mk hc0_2
 have HC3 := Aside0.mk hc0_3
 have HCR := Aside0.mk hc2
 unfold bits_Missing.f at h
 obtain ⟨v, hv, h2⟩ := Option.bind_eq_some_iff.1 h
 have HV := Aside0.mk hv
 clear h hv hr0_2 hr0_3 hr2 hc0_2 hc0_3 hc2
 by_cases hv0 : v = 0
 ·rw [if_pos hv0] at h2
  obtain ⟨l, hl, h3⟩ := Option.bind_eq_some_iff.1 h2
  have HL := Aside0.mk hl
  have HK := Aside0.mk h3
  have hne : (v != 0) = false := bne_eq_false_iff_eq.2 hv0
  clear h2 hl h3 hv0
  go_enter Try.func36, Try.ntmps36
  go_wp2_with fail
  refine (bits_Verdict.calls k a0_0 a0_1 _ _ l0_2 _ _ l0_3 a1 _ _ l2 v _ (by repeat (first | exact HR2.out | (with_reducible refine Kd.C_alloc ?_ _))) HC2.out (by repeat (first | exact HR3.out | (with_reducible refine Kd.C_alloc ?_ _))) HC3.out (by repeat (first | exact HRow.out | (with_reducible refine Kd.C_alloc ?_ _))) HCR.out HV.out).mono ?_
  rintro e w2 ⟨rfl, hb⟩
  have HB := Aside0.mk (Below.trans (by repeat (first | exact Below.refl _ _ | apply below_alloc) : Below w.heap.size w _) (hb.mono (by simp; omega)))
  have hbx := blk_grown (g := w.heap.size) (o := .cells #[.int .i64 a0_0, .int .i64 a0_1, .slice A0_2 l0_2.length c0_2, .slice A0_3 l0_3.length c0_3] 30 (0, 0)) (blk_alloc (heap_alloc_new w _) _) (grown_of_below hb none) (by simp)
  have HBR := Aside0.mk (blk_grown (g := w.heap.size + 1) (o := .cells #[.slice A2 l2.length c2] 41 (0, 0)) (by simpa using heap_alloc_new (w.alloc (.cells #[.int .i64 a0_0, .int .i64 a0_1, .slice A0_2 l0_2.length c0_2, .slice A0_3 l0_3.length c0_3] 30)) (.cells #[.slice A2 l2.length c2] 41)) (grown_of_below hb none) (by simp))
  have hy0 := (blk_cell hbx 0).trans rfl
  have hy1 := (blk_cell hbx 1).trans rfl
  have hy2 := (blk_cell hbx 2).trans rfl
  have hy3 := (blk_cell hbx 3).trans rfl
  have HZ := Aside0.mk (show w.heap.size + 2 ≤ w2.heap.size by have := hb.size; simpa using this)
  clear hb hbx
  go_wp2_with fail
  refine (txn_Reads.calls k a0_0 a0_1 _ _ l0_2 _ _ l0_3 a1 l w2 (Kd.C_below HR2.out HB.out) HC2.out (Kd.C_below HR3.out HB.out) HC3.out HL.out).mono ?_
  rintro e w3 ⟨v3, rfl, ho, hb3⟩
  have HO := Aside0.mk (Kd.R_lower ho (show w.heap.size ≤ w2.heap.size by have := HZ.out; omega))
  have HG := Aside0.mk (Kd.R_base ho)
  have HB3 := Aside0.mk (HB.out.trans (hb3.mono (by have := HZ.out; omega)))
  have HBR3 := Aside0.mk (blk_grown HBR.out (grown_of_below hb3 none) (by simp))
  clear ho hb3
  go_wp2_with fail
  refine (DelMissing.del_calls (saidQ l2) _ v3 l r w.heap.size w3 HO.out (fun W hF x b hx => missing1_calls A2 c2 l2 x b (w.heap.size + 1) W ?_ (Kd.C_below HRow.out (HB3.out.trans (hF.below (fun k hk => by have := HG.out k hk; have := HZ.out; omega)))) HCR.out hx) HK.out).mono ?_
  ·have h1 : W.heap[w.heap.size + 1]? = _ := (hF.2.1 (w.heap.size + 1) (fun e => by have := HG.out _ e.symm; have := HZ.out; omega)).trans HBR3.out
   exact (blk_cell h1 0).trans rfl
  rintro e w4 ⟨v4, rfl, ho4, hf4⟩
  have HO4 := Aside0.mk ho4
  have HB4 := Aside0.mk (HB3.out.trans (hf4.below (fun k hk => by have := HG.out k hk; have := HZ.out; omega)))
  clear ho4 hf4
  go_wp2
  go_ret
  exact ⟨_, rfl, HO4.out, HB4.out⟩
 ·rw [if_neg hv0] at h2
  obtain rfl := Option.some.inj h2
  have hne : (v != 0) = true := bne_iff_ne.2 hv0
  clear h2 hv0
  go_enter Try.func36, Try.ntmps36
  go_wp2_with fail
  refine (bits_Verdict.calls k a0_0 a0_1 _ _ l0_2 _ _ l0_3 a1 _ _ l2 v _ (by repeat (first | exact HR2.out | (with_reducible refine Kd.C_alloc ?_ _))) HC2.out (by repeat (first | exact HR3.out | (with_reducible refine Kd.C_alloc ?_ _))) HC3.out (by repeat (first | exact HRow.out | (with_reducible refine Kd.C_alloc ?_ _))) HCR.out HV.out).mono ?_
  rintro e w2 ⟨rfl, hb⟩
  have HB := Aside0.mk (Below.trans (by repeat (first | exact Below.refl _ _ | apply below_alloc) : Below w.heap.size w _) (hb.mono (by simp; omega)))
  clear hb
  go_wp2
  go_ret
  exact ⟨_, rfl, Kd.R_nil _ _ _ _ _, HB.out⟩
namespace B21
def n1 : List (S52) := [⟨2, 1, 2⟩]
def n2 : List (S52) := [⟨1, 0, 1⟩, ⟨2, 1, 2⟩]
def ra : List (S24) := [⟨⟨#[97]⟩, 0, ⟨#[]⟩, false⟩]
theorem add1 : bits_Add.f 40 [] 2 1 2 = some n1 := by kernel_rfl
theorem add2 : bits_Add.f 40 n1 1 0 1 = some n2 := by kernel_rfl
theorem of1 : bits_Of.f 40 n2 2 1 = some 2 := by kernel_rfl
theorem of2 : bits_Of.f 40 n2 2 0 = some 0 := by kernel_rfl
theorem row1 : bits_Row.f 40 n2 1 2 = some [1, 0] := by kernel_rfl
theorem ver1 : bits_Verdict.f 40 1 1 ra [] 1 [1] = some 1 := by kernel_rfl
theorem ver2 : bits_Verdict.f 40 1 1 ra [] 1 [] = some 0 := by kernel_rfl
theorem mis1 : bits_Missing.f 40 1 1 ra [] 1 [] = some [0] := by kernel_rfl
end B21
theorem C_none {α : Type} (d : Kd α) (w : World) : d.C w none ([] : List α).length [] := ⟨rfl, by simp, fun h => absurd h (Nat.lt_irrefl 0)⟩
/-- A row that is known by its block. -/
theorem C_lit1 {α : Type} {d : Kd α} {w : World} {g e : Nat} {x : α} {cs : List Value} (hg : w.heap[g]? = some (.cells cs.toArray e (0, 0))) (hl : cs.length = d.sz) (hK : d.K w x cs) : d.C w (some ⟨g, 0, none⟩) [x].length [x] := by
 refine ⟨rfl, by simp, fun _ => ⟨_, rfl, fun j p hj => ?_⟩⟩
 cases j with
 | zero =>
  simp only [List.getElem?_cons_zero, Option.some.injEq] at hj
  subst hj
  refine ⟨cs, hl, hK, fun i u hi => ?_⟩
  rw [Nat.zero_mul, Nat.zero_add, add_plain, blk_cell hg]
  simpa using hi
 | succ j => simp at hj
theorem four_cells {w : World} {g e : Nat} {a b c d : Value} (h : w.heap[g]? = some (.cells #[a, b, c, d] e (0, 0))) : w.cell? ⟨g, 0, none⟩ = some a ∧ w.cell? ⟨g, 1, none⟩ = some b ∧ w.cell? ⟨g, 2, none⟩ = some c ∧ w.cell? ⟨g, 3, none⟩ = some d := by
 refine ⟨?_, ?_, ?_, ?_⟩ <;> (rw [blk_cell h]; rfl)
def diwanlaw21_begun.f : Option Bool := some true
set_option maxHeartbeats 4000000 in
set_option maxRecDepth 100000 in
theorem diwanlaw21_begun.calls (r : Bool) (w : World) (h : diwanlaw21_begun.f = some r) :
  Calls Try.prog 27 #[] w fun e w' => e = .returned (.bool r) ∧ Below w.heap.size w w' := by
 obtain rfl := Option.some.inj h
 have hu := Try.underlying30
 have hur := Try.underlying24
 clear h
 go_enter Try.func27, Try.ntmps27
 go_wp2_with fail
 refine calls_of_args (args' := #[.slice none ([] : List (S52)).length 0, .int .i64 2, .int .i64 1, .int .i64 2]) (by rfl) ?_
 refine (bits_Add.calls 40 none 0 [] 2 1 2 B21.n1 w (C_none _ _) (Nat.le_refl _) B21.add1).mono ?_
 rintro e w1 ⟨v1, rfl, ho1, hb1⟩
 obtain ⟨A1, c1, rfl⟩ := Kd.R_slice ho1
 have HO1 := Aside0.mk ho1
 have HB1 := Aside0.mk hb1
 clear ho1 hb1
 go_wp2_with fail
 refine calls_of_args (args' := #[.slice A1 B21.n1.length c1, .int .i64 1, .int .i64 0, .int .i64 1]) (by rfl) ?_
 refine (bits_Add.calls 40 A1 c1 B21.n1 1 0 1 B21.n2 w1 (Kd.R_reads' HO1.out).2.2 (Kd.R_reads' HO1.out).2.1 B21.add2).mono ?_
 rintro e w2 ⟨v2, rfl, ho2, hb2⟩
 obtain ⟨g2, c2, rfl, hg2, _, _⟩ := Kd.R_form ho2 (by decide)
 have HC := Aside0.mk (Kd.R_reads' ho2).2.2
 have HL := Aside0.mk (Kd.R_reads' ho2).2.1
 have HB2 := Aside0.mk (below_step HB1.out hb2)
 obtain ⟨ad, ea, hx0, hx1, hx2⟩ := at_T52 HC.out 0 (by decide) (by decide)
 have hq0 : w2.cell? ⟨g2, 0, none⟩ = some (.int .i64 1) := by
  cases ea
  exact hx0
 clear hx0 hx1 hx2 ho2 hb2 HO1 HB1 ea hg2
 simp only [show B21.n2.length = 2 from rfl]
 have HR := Aside0.mk (Kd.C_alloc (C_lit1 (d := k24) (x := ⟨⟨#[97]⟩, 0, ⟨#[]⟩, false⟩) (cs := [.string ⟨#[97]⟩, .int .i64 0, .string ⟨#[]⟩, .bool false]) (heap_alloc_new w2 (.cells #[.string ⟨#[97]⟩, .int .i64 0, .string ⟨#[]⟩, .bool false] 24)) rfl (k24_mk _ _)) (.cells #[.int .i64 1, .int .i64 1, .slice (some ⟨w2.heap.size, 0, none⟩) 1 1, .slice none 0 0] 30))
 have HT := Aside0.mk (by simpa using heap_alloc_new (w2.alloc (.cells #[.string ⟨#[97]⟩, .int .i64 0, .string ⟨#[]⟩, .bool false] 24)) (.cells #[.int .i64 1, .int .i64 1, .slice (some ⟨w2.heap.size, 0, none⟩) 1 1, .slice none 0 0] 30) : ((w2.alloc (.cells #[.string ⟨#[97]⟩, .int .i64 0, .string ⟨#[]⟩, .bool false] 24)).alloc (.cells #[.int .i64 1, .int .i64 1, .slice (some ⟨w2.heap.size, 0, none⟩) 1 1, .slice none 0 0] 30)).heap[w2.heap.size + 1]? = some (.cells #[.int .i64 1, .int .i64 1, .slice (some ⟨w2.heap.size, 0, none⟩) 1 1, .slice none 0 0] 30))
 have HC0 := Aside0.mk (Kd.C_alloc (Kd.C_alloc HC.out (.cells #[.string ⟨#[97]⟩, .int .i64 0, .string ⟨#[]⟩, .bool false] 24)) (.cells #[.int .i64 1, .int .i64 1, .slice (some ⟨w2.heap.size, 0, none⟩) 1 1, .slice none 0 0] 30))
 have HB0 := Aside0.mk (below_alloc (below_alloc HB2.out (.cells #[.string ⟨#[97]⟩, .int .i64 0, .string ⟨#[]⟩, .bool false] 24)) (.cells #[.int .i64 1, .int .i64 1, .slice (some ⟨w2.heap.size, 0, none⟩) 1 1, .slice none 0 0] 30))
 clear HC HB2
 go_wp2_with fail
 refine calls_of_args (args' := #[.slice (some ⟨g2, 0, none⟩) B21.n2.length c2, .int .i64 2, .int .i64 1]) (by rfl) ?_
 refine (bits_Of.calls 40 _ c2 B21.n2 2 1 2 _ HC0.out HL.out B21.of1).mono ?_
 rintro e w3 ⟨rfl, hb⟩
 replace HR := Aside0.mk (Kd.C_below HR.out hb)
 replace HC0 := Aside0.mk (Kd.C_below HC0.out hb)
 have ht := blk_below HT.out hb
 replace HB0 := Aside0.mk (below_step HB0.out hb)
 clear hb HT hq0
 go_wp2_with fail
 refine calls_of_args (args' := #[.slice (some ⟨g2, 0, none⟩) B21.n2.length c2, .int .i64 2, .int .i64 0]) (by rfl) ?_
 refine (bits_Of.calls 40 _ c2 B21.n2 2 0 0 _ HC0.out HL.out B21.of2).mono ?_
 rintro e w4 ⟨rfl, hb⟩
 replace HR := Aside0.mk (Kd.C_below HR.out hb)
 replace HC0 := Aside0.mk (Kd.C_below HC0.out hb)
 replace ht := blk_below ht hb
 replace HB0 := Aside0.mk (below_step HB0.out hb)
 clear hb
 go_wp2_with fail
 refine calls_of_args (args' := #[.slice (some ⟨g2, 0, none⟩) B21.n2.length c2, .int .i64 1, .int .i64 2]) (by rfl) ?_
 refine (bits_Row.calls 40 _ c2 B21.n2 1 2 [1, 0] _ HC0.out HL.out B21.row1).mono ?_
 rintro e w5 ⟨v5, rfl, ho5, hb⟩
 obtain ⟨A5, c5, rfl⟩ := Kd.R_slice ho5
 replace HR := Aside0.mk (Kd.C_below HR.out hb)
 replace ht := blk_below ht hb
 replace HB0 := Aside0.mk (below_step HB0.out hb)
 clear hb ho5 HC0
 simp only [show ([1, 0] : List Int).length = 2 from rfl]
 obtain ⟨q0, q1, q2, q3⟩ := four_cells ht
 have HT := Aside0.mk ht
 clear ht
 go_wp2_with fail
 have hne : w5.heap.size ≠ w2.heap.size + 1 := by
  have := blk_lt HT.out
  omega
 refine calls_of_args (args' := #[.agg #[.int .i64 1, .int .i64 1, .slice (some ⟨w2.heap.size, 0, none⟩) B21.ra.length 1, .slice none ([] : List (S27)).length 0], .int .i64 1, .slice (some ⟨w5.heap.size, 0, none⟩) ([1] : List Int).length 1]) (by rfl) ?_
 refine (bits_Verdict.calls 40 1 1 _ 1 B21.ra _ 0 [] 1 _ 1 [1] 1 _ (Kd.C_alloc HR.out _) (by decide) (C_none _ _) (by decide) (C_lit1 (heap_alloc_new _ _) rfl rfl) (by decide) B21.ver1).mono ?_
 rintro e w6 ⟨rfl, hb⟩
 replace HR := Aside0.mk (Kd.C_below (Kd.C_alloc HR.out _) hb)
 have ht := blk_below (blk_alloc HT.out _) hb
 replace HB0 := Aside0.mk (below_step (below_alloc HB0.out _) hb)
 clear hb q0 q1 q2 q3 HT hne
 obtain ⟨q0, q1, q2, q3⟩ := four_cells ht
 have HT := Aside0.mk ht
 clear ht
 go_wp2_with fail
 refine calls_of_args (args' := #[.agg #[.int .i64 1, .int .i64 1, .slice (some ⟨w2.heap.size, 0, none⟩) B21.ra.length 1, .slice none ([] : List (S27)).length 0], .int .i64 1, .slice none ([] : List Int).length 0]) (by rfl) ?_
 refine (bits_Verdict.calls 40 1 1 _ 1 B21.ra _ 0 [] 1 _ 0 [] 0 _ HR.out (by decide) (C_none _ _) (by decide) (C_none _ _) (by decide) B21.ver2).mono ?_
 rintro e w7 ⟨rfl, hb⟩
 replace HR := Aside0.mk (Kd.C_below HR.out hb)
 have ht := blk_below HT.out hb
 replace HB0 := Aside0.mk (below_step HB0.out hb)
 clear hb q0 q1 q2 q3 HT
 obtain ⟨q0, q1, q2, q3⟩ := four_cells ht
 have HT := Aside0.mk ht
 clear ht
 go_wp2_with fail
 refine calls_of_args (args' := #[.agg #[.int .i64 1, .int .i64 1, .slice (some ⟨w2.heap.size, 0, none⟩) B21.ra.length 1, .slice none ([] : List (S27)).length 0], .int .i64 1, .slice none ([] : List Int).length 0]) (by rfl) ?_
 refine (bits_Missing.calls 40 1 1 _ 1 B21.ra _ 0 [] 1 _ 0 [] [0] _ HR.out (by decide) (C_none _ _) (by decide) (C_none _ _) (by decide) B21.mis1).mono ?_
 rintro e w8 ⟨v8, rfl, ho8, hb⟩
 obtain ⟨A8, c8, rfl⟩ := Kd.R_slice ho8
 replace HB0 := Aside0.mk (below_step HB0.out hb)
 clear hb q0 q1 q2 q3 HT ho8
 simp only [show ([0] : List Int).length = 1 from rfl]
 go_wp2_with fail
 go_ret
 exact ⟨rfl, HB0.out⟩
end Go.Proofs.Ytnlfhbohcgjcbaa.PA
