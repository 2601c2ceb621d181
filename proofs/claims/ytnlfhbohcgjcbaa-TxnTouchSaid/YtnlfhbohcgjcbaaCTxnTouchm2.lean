/- That a transaction touches just the shards of its keys, and its reads shards are of those. -/
import Derived.Test.YtnlfhbohcgjcbaaCTxnTouchm1
import Derived.Test.YtnlfhbohcgjcbaaCTxnTouchm0
import Derived.KernelRfl
import Derived.Test.YtnlfhbohcgjcbaaRows
import Derived.WalkKit
import Derived.ProofKit
import Derived.OpenShut
import Derived.ShutString
import Derived.ChangeOld
import Derived.Below
import Derived.SizedLaws
import Derived.Test.YtnlfhbohcgjcbaaWSized
namespace Go.Proofs.Ytnlfhbohcgjcbaa.PA
open Go.RowKit Go.Proofs.YtnlfhbohcgjcbaaW.PrintWords Go.Proofs.YtnlfhbohcgjcbaaW.PrintLast Go.Proofs.YtnlfhbohcgjcbaaW.PrintMore
set_option linter.unusedVariables false
set_option linter.unusedSimpArgs false
theorem reader_num.mono (l : List Int) (n : Int) (bad : Bool) (k : Nat) : LeO (reader_num.f k l n bad) (reader_num.f (k + 1) l n bad) := by
 unfold reader_num.f
 exact LeO.ite (LeO.bind (num_Take.mono _ _) (fun _ => LeO.refl _)) (LeO.refl _)
theorem reader_text.mono (l : List Int) (n : Int) (bad : Bool) (k : Nat) : LeO (reader_text.f k l n bad) (reader_text.f (k + 1) l n bad) := by
 unfold reader_text.f
 exact LeO.ite (LeO.bind (num_TakeText.mono _ _) (fun _ => LeO.refl _)) (LeO.refl _)
/-- The reads: how many there are still, how far, whether there was too little; those that there are. -/
def takeR : Nat → List Int → Int → Int → Bool → List (S24) → Option (List (S24) × Int × Bool)
 | 0, _, _, _, _, _ => none
 | k + 1, l, i, n, bad, rs => if 0 < i ∧ bad = false then (reader_text.f k l n bad).bind fun p => (reader_num.f k l p.2.1 p.2.2).bind fun q => (reader_text.f k l q.2.1 q.2.2).bind fun v => (reader_num.f k l v.2.1 v.2.2).bind fun g => if rs.length < 1000000 then takeR k l (wrap64 (i - 1)) g.2.1 g.2.2 (rs ++ [⟨p.1, q.1, v.1, g.1 == 1⟩]) else none
  else some (rs, n, bad)
/-- The writes, likewise. -/
def takeW : Nat → List Int → Int → Int → Bool → List (S27) → Option (List (S27) × Int × Bool)
 | 0, _, _, _, _, _ => none
 | k + 1, l, i, n, bad, ws => if 0 < i ∧ bad = false then (reader_text.f k l n bad).bind fun p => (reader_text.f k l p.2.1 p.2.2).bind fun v => (reader_num.f k l v.2.1 v.2.2).bind fun g => if ws.length < 1000000 then takeW k l (wrap64 (i - 1)) g.2.1 g.2.2 (ws ++ [⟨p.1, v.1, g.1 == 1⟩]) else none
  else some (ws, n, bad)
/-- What Take answers when all has been read. -/
def takeEnd (k : Nat) (l : List Int) (a b : Int) (rs : List (S24)) (ws : List (S27)) (n : Int) (bad : Bool) : Option (Int × Int × (List (S24)) × (List (S27)) × Int × Bool) :=
 (txn_Put.f k a b rs ws).bind fun c => if bad = true then some (0, 0, [], [], 0, false) else if 0 < c.length then (bytes_HasPrefix.f l c).bind fun h => if h = true then (if (c.length : Int) = n then some (a, b, rs, ws, n, true) else some (0, 0, [], [], 0, false)) else some (0, 0, [], [], 0, false) else none
def txn_Take.f (k : Nat) (l0 : List Int) : Option (Int × Int × (List (S24)) × (List (S27)) × Int × Bool) :=
 (reader_num.f k l0 0 false).bind fun a => (reader_num.f k l0 a.2.1 a.2.2).bind fun b => (reader_num.f k l0 b.2.1 b.2.2).bind fun i => (takeR k l0 i.1 i.2.1 i.2.2 []).bind fun r => (reader_num.f k l0 r.2.1 r.2.2).bind fun j => (takeW k l0 j.1 j.2.1 j.2.2 []).bind fun w => takeEnd k l0 a.1 b.1 r.1 w.1 w.2.1 w.2.2
theorem takeR.mono : ∀ k l i n bad rs, LeO (takeR k l i n bad rs) (takeR (k + 1) l i n bad rs)
 | 0, l, i, n, bad, rs => LeO.none _
 | k + 1, l, i, n, bad, rs => by
  unfold takeR
  exact LeO.ite (LeO.bind (reader_text.mono _ _ _ _) (fun _ => LeO.bind (reader_num.mono _ _ _ _) (fun _ => LeO.bind (reader_text.mono _ _ _ _) (fun _ => LeO.bind (reader_num.mono _ _ _ _) (fun _ => LeO.ite (takeR.mono _ _ _ _ _ _) (LeO.refl _)))))) (LeO.refl _)
theorem takeW.mono : ∀ k l i n bad rs, LeO (takeW k l i n bad rs) (takeW (k + 1) l i n bad rs)
 | 0, l, i, n, bad, rs => LeO.none _
 | k + 1, l, i, n, bad, rs => by
  unfold takeW
  exact LeO.ite (LeO.bind (reader_text.mono _ _ _ _) (fun _ => LeO.bind (reader_text.mono _ _ _ _) (fun _ => LeO.bind (reader_num.mono _ _ _ _) (fun _ => LeO.ite (takeW.mono _ _ _ _ _ _) (LeO.refl _))))) (LeO.refl _)
/-- What there is while it is read: the reader at g, the transaction at gt. -/
def TkSt (ok : Nat → Prop) (w W : World) (g gt : Nat) (A0 : Option Addr) (c0 : Nat) (l : List Int) (n : Int) (bad : Bool) (a b : Int) (vr : Value) (rs : List (S24)) (vw : Value) (ws : List (S27)) : Prop :=
 (Rd W g A0 c0 l n bad ∧ W.heap[gt]? = some (.cells #[.int .i64 a, .int .i64 b, vr, vw] 30 (0, 0))) ∧ (w.heap.size ≤ g ∧ w.heap.size ≤ gt ∧ g ≠ gt) ∧ Kd.R k24 24 W w.heap.size ok vr rs ∧ Kd.R k27 27 W w.heap.size ok vw ws ∧ Below w.heap.size w W
section
variable {ok ok' : Nat → Prop} {w W W1 : World} {g gt : Nat} {A0 : Option Addr} {c0 : Nat} {l : List Int} {n : Int} {bad : Bool} {a b : Int} {vr : Value} {rs : List (S24)} {vw : Value} {ws : List (S27)}
theorem TkSt.mono (h : TkSt ok w W g gt A0 c0 l n bad a b vr rs vw ws) (hok : ∀ k, ok k → ok' k) : TkSt ok' w W g gt A0 c0 l n bad a b vr rs vw ws :=
 ⟨h.1, h.2.1, Kd.R_mono h.2.2.1 hok, Kd.R_mono h.2.2.2.1 hok, h.2.2.2.2⟩
theorem TkSt.below (h : TkSt ok w W g gt A0 c0 l n bad a b vr rs vw ws) (hb : Below W.heap.size W W1) : TkSt ok w W1 g gt A0 c0 l n bad a b vr rs vw ws :=
 ⟨⟨h.1.1.below hb, blk_grown h.1.2 (grown_of_below hb none) (by simp)⟩, h.2.1, Kd.R_below h.2.2.1 hb, Kd.R_below h.2.2.2.1 hb, below_step h.2.2.2.2 hb⟩
theorem TkSt.alloc (h : TkSt ok w W g gt A0 c0 l n bad a b vr rs vw ws) (o : Obj) : TkSt ok w (W.alloc o) g gt A0 c0 l n bad a b vr rs vw ws := h.below (below_alloc (Below.refl _ _) o)
theorem TkSt.drew (h : TkSt ok w W g gt A0 c0 l n bad a b vr rs vw ws) : TkSt ok w W.drew g gt A0 c0 l n bad a b vr rs vw ws := h.below (below_drew1 (Below.refl _ _))
theorem TkSt.drewN (h : TkSt ok w W g gt A0 c0 l n bad a b vr rs vw ws) (m : Nat) : TkSt ok w (W.drewN m) g gt A0 c0 l n bad a b vr rs vw ws := h.below (pw_below_drewN (Below.refl _ _) m)
theorem TkSt.elder (h : TkSt ok w W g gt A0 c0 l n bad a b vr rs vw ws) : TkSt (fun k => k ≠ W.heap.size) w W g gt A0 c0 l n bad a b vr rs vw ws :=
 ⟨h.1, h.2.1, Kd.R_mono (Kd.R_bound h.2.2.1) (fun k hk => by have := hk.2.2.1; omega), Kd.R_mono (Kd.R_bound h.2.2.2.1) (fun k hk => by have := hk.2.2.1; omega), h.2.2.2.2⟩
theorem TkSt.far {gx : Nat} (h : TkSt (fun k => k ≠ gx) w W g gt A0 c0 l n bad a b vr rs vw ws) (hg : g ≠ gx) (ht : gt ≠ gx) (hx : w.heap.size ≤ gx) (i : Nat) (u : Value) : TkSt (fun k => k ≠ gx) w (W.setCell ⟨gx, i, none⟩ u) g gt A0 c0 l n bad a b vr rs vw ws :=
 ⟨⟨blk_far h.1.1 hg u, blk_far h.1.2 ht u⟩, h.2.1, Kd.R_far h.2.2.1 (fun _ hk => hk) u, Kd.R_far h.2.2.2.1 (fun _ hk => hk) u, below_set h.2.2.2.2 hx⟩
theorem TkSt.keep {n' : Int} {bad' : Bool} (h : TkSt ok w W g gt A0 c0 l n bad a b vr rs vw ws) (hr : Rd W1 g A0 c0 l n' bad') (hb : Below w.heap.size w W1) (hk : KeepBut W W1 g none) : TkSt ok w W1 g gt A0 c0 l n' bad' a b vr rs vw ws :=
 ⟨⟨hr, hk.blk h.1.2 (fun e => h.2.1.2.2 e.symm) (by simp)⟩, h.2.1, Kd.R_mono (Kd.R_keep (Kd.R_types h.2.2.1 h.1.1 (by decide)) hk (fun _ hk => hk.2)) (fun _ hk => hk.1), Kd.R_mono (Kd.R_keep (Kd.R_types h.2.2.2.1 h.1.1 (by decide)) hk (fun _ hk => hk.2)) (fun _ hk => hk.1), hb⟩
theorem TkSt.num {k : Nat} {v n' : Int} {bad' : Bool} (hr0 : Kd.C (Kd.int .u8) w A0 l.length l) (hc0 : l.length ≤ c0) (h : TkSt ok w W g gt A0 c0 l n bad a b vr rs vw ws) (hf : reader_num.f k l n bad = some (v, n', bad')) :
  Calls Try.prog 119 #[.pointer (some ⟨g, 0, none⟩)] W fun e w' => e = .returned (.int .i64 v) ∧ TkSt ok w w' g gt A0 c0 l n' bad' a b vr rs vw ws ∧ KeepBut W w' g none := by
 refine (reader_num.calls k g A0 c0 l n bad v n' bad' w W h.1.1 hr0 hc0 h.2.1.1 h.2.2.2.2 hf).mono ?_
 rintro e w' ⟨rfl, h1, h2, h3⟩
 exact ⟨rfl, h.keep h1 h2 h3, h3⟩
theorem TkSt.text {k : Nat} {v : ByteArray} {n' : Int} {bad' : Bool} (hr0 : Kd.C (Kd.int .u8) w A0 l.length l) (hc0 : l.length ≤ c0) (h : TkSt ok w W g gt A0 c0 l n bad a b vr rs vw ws) (hf : reader_text.f k l n bad = some (v, n', bad')) :
  Calls Try.prog 120 #[.pointer (some ⟨g, 0, none⟩)] W fun e w' => e = .returned (.string v) ∧ TkSt ok w w' g gt A0 c0 l n' bad' a b vr rs vw ws ∧ KeepBut W w' g none := by
 refine (reader_text.calls k g A0 c0 l n bad v n' bad' w W h.1.1 hr0 hc0 h.2.1.1 h.2.2.2.2 hf).mono ?_
 rintro e w' ⟨rfl, h1, h2, h3⟩
 exact ⟨rfl, h.keep h1 h2 h3, h3⟩
theorem TkSt.set_a (h : TkSt ok w W g gt A0 c0 l n bad a b vr rs vw ws) (x : Int) : TkSt ok w (W.setCell ⟨gt, 0, none⟩ (.int .i64 x)) g gt A0 c0 l n bad x b vr rs vw ws :=
 ⟨⟨blk_far h.1.1 h.2.1.2.2 _, by simpa using blk_set h.1.2 0 (.int .i64 x)⟩, h.2.1, Kd.R_mono (Kd.R_far (p := ⟨gt, 0, none⟩) (Kd.R_types h.2.2.1 h.1.2 (by decide)) (fun _ hk => hk.2) _) (fun _ hk => hk.1), Kd.R_mono (Kd.R_far (p := ⟨gt, 0, none⟩) (Kd.R_types h.2.2.2.1 h.1.2 (by decide)) (fun _ hk => hk.2) _) (fun _ hk => hk.1), below_set h.2.2.2.2 h.2.1.2.1⟩
theorem TkSt.set_b (h : TkSt ok w W g gt A0 c0 l n bad a b vr rs vw ws) (x : Int) : TkSt ok w (W.setCell ⟨gt, 1, none⟩ (.int .i64 x)) g gt A0 c0 l n bad a x vr rs vw ws :=
 ⟨⟨blk_far h.1.1 h.2.1.2.2 _, by simpa using blk_set h.1.2 1 (.int .i64 x)⟩, h.2.1, Kd.R_mono (Kd.R_far (p := ⟨gt, 1, none⟩) (Kd.R_types h.2.2.1 h.1.2 (by decide)) (fun _ hk => hk.2) _) (fun _ hk => hk.1), Kd.R_mono (Kd.R_far (p := ⟨gt, 1, none⟩) (Kd.R_types h.2.2.2.1 h.1.2 (by decide)) (fun _ hk => hk.2) _) (fun _ hk => hk.1), below_set h.2.2.2.2 h.2.1.2.1⟩
/-- Reads have been put behind: the row at v1, and the transaction's cell. -/
theorem TkSt.put_r (h : TkSt ok w W g gt A0 c0 l n bad a b vr rs vw ws) {v1 : Value} {rs1 : List (S24)} (ho : Kd.R k24 24 W1 w.heap.size ok v1 rs1) (hb : Below w.heap.size w W1) (hg : W.grownBy W1 vr.ownBlock) : TkSt ok w (W1.setCell ⟨gt, 2, none⟩ v1) g gt A0 c0 l n bad a b v1 rs1 vw ws := by
 have h1 : Rd W1 g A0 c0 l n bad := blk_grown h.1.1 hg (Kd.R_ne h.2.2.1 h.1.1 (by decide))
 have h2 := blk_grown h.1.2 hg (Kd.R_ne h.2.2.1 h.1.2 (by decide))
 have h3 := Kd.R_over h.2.2.2.1 h.2.2.1 (by decide) hg
 exact ⟨⟨blk_far h1 h.2.1.2.2 _, by simpa using blk_set h2 2 v1⟩, h.2.1, Kd.R_mono (Kd.R_far (p := ⟨gt, 2, none⟩) (Kd.R_types ho h2 (by decide)) (fun _ hk => hk.2) _) (fun _ hk => hk.1), Kd.R_mono (Kd.R_far (p := ⟨gt, 2, none⟩) (Kd.R_types h3 h2 (by decide)) (fun _ hk => hk.2) _) (fun _ hk => hk.1), below_set hb h.2.1.2.1⟩
theorem TkSt.put_w (h : TkSt ok w W g gt A0 c0 l n bad a b vr rs vw ws) {v1 : Value} {ws1 : List (S27)} (ho : Kd.R k27 27 W1 w.heap.size ok v1 ws1) (hb : Below w.heap.size w W1) (hg : W.grownBy W1 vw.ownBlock) : TkSt ok w (W1.setCell ⟨gt, 3, none⟩ v1) g gt A0 c0 l n bad a b vr rs v1 ws1 := by
 have h1 : Rd W1 g A0 c0 l n bad := blk_grown h.1.1 hg (Kd.R_ne h.2.2.2.1 h.1.1 (by decide))
 have h2 := blk_grown h.1.2 hg (Kd.R_ne h.2.2.2.1 h.1.2 (by decide))
 have h3 := Kd.R_over h.2.2.1 h.2.2.2.1 (by decide) hg
 exact ⟨⟨blk_far h1 h.2.1.2.2 _, by simpa using blk_set h2 3 v1⟩, h.2.1, Kd.R_mono (Kd.R_far (p := ⟨gt, 3, none⟩) (Kd.R_types h3 h2 (by decide)) (fun _ hk => hk.2) _) (fun _ hk => hk.1), Kd.R_mono (Kd.R_far (p := ⟨gt, 3, none⟩) (Kd.R_types ho h2 (by decide)) (fun _ hk => hk.2) _) (fun _ hk => hk.1), below_set hb h.2.1.2.1⟩
theorem TkSt.cells (h : TkSt ok w W g gt A0 c0 l n bad a b vr rs vw ws) : W.cell? ⟨gt, 0, none⟩ = some (.int .i64 a) ∧ W.cell? ⟨gt, 1, none⟩ = some (.int .i64 b) ∧ W.cell? ⟨gt, 2, none⟩ = some vr ∧ W.cell? ⟨gt, 3, none⟩ = some vw ∧ W.cell? ⟨g, 1, none⟩ = some (.int .i64 n) :=
 ⟨(blk_cell h.1.2 0).trans rfl, (blk_cell h.1.2 1).trans rfl, (blk_cell h.1.2 2).trans rfl, (blk_cell h.1.2 3).trans rfl, h.1.1.c1⟩
/-- The transaction's cells have been written anew, as they were. -/
theorem TkSt.same (h : TkSt ok w W g gt A0 c0 l n bad a b vr rs vw ws) : TkSt ok w ((((W.setCell ⟨gt, 0, none⟩ (.int .i64 a)).setCell ⟨gt, 1, none⟩ (.int .i64 b)).setCell ⟨gt, 2, none⟩ vr).setCell ⟨gt, 3, none⟩ vw) g gt A0 c0 l n bad a b vr rs vw ws := by
 have h1 := (h.set_a a).set_b b
 have h2 := h1.put_r h1.2.2.1 h1.2.2.2.2 (grown_of_below (Below.refl _ _) _)
 exact h2.put_w h2.2.2.2.1 h2.2.2.2.2 (grown_of_below (Below.refl _ _) _)
theorem TkSt.bad_cell (h : TkSt ok w W g gt A0 c0 l n bad a b vr rs vw ws) : W.cell? ⟨g, 2, none⟩ = some (.bool bad) := h.1.1.c2
theorem TkSt.new (w : World) (A0 : Option Addr) (c0 : Nat) (l : List Int) : TkSt (fun _ => True) w ((w.alloc (.cells #[.int .i64 0, .int .i64 0, .slice none 0 0, .slice none 0 0] 30)).alloc (.cells #[.slice A0 l.length c0, .int .i64 0, .bool false] 177)) (w.heap.size + 1) w.heap.size A0 c0 l 0 false 0 0 (.slice none 0 0) [] (.slice none 0 0) [] :=
 ⟨⟨by have := heap_alloc_new (w.alloc (.cells #[.int .i64 0, .int .i64 0, .slice none 0 0, .slice none 0 0] 30)) (.cells #[.slice A0 l.length c0, .int .i64 0, .bool false] 177); simpa [Rd] using this, blk_grown (by simpa using heap_alloc_new w _) (grown_of_below (below_alloc (Below.refl _ _) _) none) (by simp)⟩, ⟨by omega, by omega, by omega⟩, Kd.R_nil _ _ _ _ _, Kd.R_nil _ _ _ _ _, below_alloc (below_alloc (Below.refl _ _) _) _⟩
end
end Go.Proofs.Ytnlfhbohcgjcbaa.PA
namespace Go.Proofs.Ytnlfhbohcgjcbaa.PA
open Go.RowKit Go.Proofs.YtnlfhbohcgjcbaaW.PrintWords Go.Proofs.YtnlfhbohcgjcbaaW.PrintLast Go.Proofs.YtnlfhbohcgjcbaaW.PrintMore
set_option linter.unusedVariables false
set_option linter.unusedSimpArgs false
set_option maxHeartbeats 4000000 in
set_option maxRecDepth 100000 in
theorem txn_Take.calls (k : Nat) (A0 : Option Addr) (c0 : Nat) (l0 : List Int) (r1 : Int) (r2 : Int) (r3 : List (S24)) (r4 : List (S27)) (r5 : Int) (r6 : Bool) (w : World) (hr0 : Kd.C (Kd.int .u8) w A0 l0.length l0) (hc0 : l0.length ≤ c0) (h : txn_Take.f k l0 = some (r1, r2, r3, r4, r5, r6)) :
  Calls Try.prog 63 #[.slice A0 l0.length c0] w fun e w' => ∃ v2_ v3_ : Value, e = .returned (.tuple #[.agg #[.int .i64 r1, .int .i64 r2, v2_, v3_], .int .i64 r5, .bool r6]) ∧ Kd.R k24 24 w' w.heap.size (fun _ => True) v2_ r3 ∧ Kd.R k27 27 w' w.heap.size (fun _ => True) v3_ r4 ∧ Below w.heap.size w w' := by
 unfold txn_Take.f at h
 obtain ⟨⟨a, n1, b1⟩, h1, h⟩ := Option.bind_eq_some_iff.1 h
 obtain ⟨⟨b, n2, b2⟩, h2, h⟩ := Option.bind_eq_some_iff.1 h
 obtain ⟨⟨i, n3, b3⟩, h3, h⟩ := Option.bind_eq_some_iff.1 h
 obtain ⟨⟨rs, n4, b4⟩, h4, h⟩ := Option.bind_eq_some_iff.1 h
 obtain ⟨⟨j, n5, b5⟩, h5, h⟩ := Option.bind_eq_some_iff.1 h
 obtain ⟨⟨ws, n6, b6⟩, h6, h⟩ := Option.bind_eq_some_iff.1 h
 have H1 := Aside0.mk h1
 have H2 := Aside0.mk h2
 have H3 := Aside0.mk h3
 have H4 := Aside0.mk h4
 have H5 := Aside0.mk h5
 have H6 := Aside0.mk h6
 have H := Aside0.mk h
 have HR := Aside0.mk hr0
 have HC := Aside0.mk hc0
 clear h1 h2 h3 h4 h5 h6 h hr0 hc0
 repeat clear h
 go_enter Try.func63, Try.ntmps63
 go_wp2_with fail
 refine (TkSt.num HR.out HC.out (TkSt.new w A0 c0 l0) H1.out).mono ?_
 rintro e w1 ⟨rfl, hS, _⟩
 have HS := Aside0.mk hS
 clear hS
 go_wp2_with fail
 refine (TkSt.num HR.out HC.out HS.out H2.out).mono ?_
 rintro e w2 ⟨rfl, hS, _⟩
 have hf0 := blk_frozen hS.1.2 0
 have hf1 := blk_frozen hS.1.2 1
 have hc0 := (blk_cell hS.1.2 0).trans rfl
 have hc1 := (blk_cell hS.1.2 1).trans rfl
 have HS := Aside0.mk ((hS.set_a a).set_b b)
 clear hS
 go_wp2_with fail
 clear hf0 hf1 hc0 hc1
 refine (TkSt.num HR.out HC.out HS.out H3.out).mono ?_
 rintro e w3 ⟨rfl, hS, _⟩
 have HS := Aside0.mk hS
 clear hS
 go_wp2_with fail
 go_loopg [8] k (fun kq v8 w' => ∃ (i' n' : Int) (bad' : Bool) (vr : Value) (rs' : List (S24)), v8 = .int .i64 i' ∧ Aside0 (takeR kq l0 i' n' bad' rs' = some (rs, n4, b4)) ∧ Aside0 (kq ≤ k) ∧ Aside0 (TkSt (fun _ => True) w w' (w.heap.size + 1) w.heap.size A0 c0 l0 n' bad' a b vr rs' (.slice none 0 0) []))
 case atStart => exact ⟨i, n3, b3, _, [], rfl, H4, ⟨Nat.le_refl _⟩, HS⟩
 case round =>
  clear H1 H2 H3 H4 HS
  obtain ⟨i', n', bad', vr, rs', rfl, HA, HK1, HS⟩ := hrel
  have HSb := HS.out.bad_cell
  cases gk with
  | zero => exact absurd HA.out (by simp [takeR])
  | succ k1 =>
   by_cases hc : 0 < i' ∧ bad' = false
   ·have hA := HA.out
    unfold takeR at hA
    rw [if_pos hc] at hA
    obtain ⟨h0, rfl⟩ := hc
    obtain ⟨⟨p, n7, b7⟩, h7, hA⟩ := Option.bind_eq_some_iff.1 hA
    obtain ⟨⟨q, n8, b8⟩, h8, hA⟩ := Option.bind_eq_some_iff.1 hA
    obtain ⟨⟨v, n9, b9⟩, h9, hA⟩ := Option.bind_eq_some_iff.1 hA
    obtain ⟨⟨f, n10, b10⟩, h10, hA⟩ := Option.bind_eq_some_iff.1 hA
    have H7 := Aside0.mk h7
    have H8 := Aside0.mk h8
    have H9 := Aside0.mk h9
    have H10 := Aside0.mk h10
    dsimp only at hA
    have hlen : rs'.length < 1000000 := Decidable.byContradiction fun hn => by rw [if_neg hn] at hA; cases hA
    rw [if_pos hlen] at hA
    have HA2 := Aside0.mk hA
    have HLen := Aside0.mk hlen
    clear h7 h8 h9 h10 hA HA hlen
    repeat clear hA
    have hd : decide (0 < i') = true := decide_eq_true h0
    clear h0
    go_wp2_with fail
    refine (TkSt.text HR.out HC.out HS.out H7.out).mono ?_
    rintro e w5 ⟨rfl, hS5, _⟩
    have HS5 := Aside0.mk hS5
    clear hS5
    go_wp2_with fail
    refine (TkSt.num HR.out HC.out HS5.out H8.out).mono ?_
    rintro e w6 ⟨rfl, hS6, _⟩
    have HS6 := Aside0.mk hS6
    clear hS6
    go_wp2_with fail
    refine (TkSt.text HR.out HC.out HS6.out H9.out).mono ?_
    rintro e w7 ⟨rfl, hS7, _⟩
    have HS7 := Aside0.mk hS7.elder
    clear HS5 HS6
    have hgl : w.heap.size + 1 < w7.heap.size := blk_lt hS7.1.1
    have HGL := Aside0.mk hgl
    clear hS7 hgl
    go_wp2_with fail
    refine (TkSt.num HR.out HC.out (HS7.out.alloc _) H10.out).mono ?_
    rintro e w8 ⟨rfl, hS8, hk8⟩
    have hx8 : w8.heap[w7.heap.size]? = some (.cells #[.string p, .int .i64 q, .string v, .bool false] 24 (0, 0)) := hk8.blk (heap_alloc_new w7 _) (by have := HGL.out; omega) (by simp)
    have hfx := blk_frozen hx8 3
    have hcx := (blk_cell hx8 3).trans rfl
    have hx9 : (w8.setCell ⟨w7.heap.size, 3, none⟩ (.bool (f == 1))).heap[w7.heap.size]? = some (.cells #[.string p, .int .i64 q, .string v, .bool (f == 1)] 24 (0, 0)) := by simpa using blk_set hx8 3 (.bool (f == 1))
    have hS9 := hS8.far (by have := HGL.out; omega) (by have := HGL.out; omega) (by have := HGL.out; omega) 3 (.bool (f == 1))
    have hx90 := (blk_cell hx9 0).trans rfl
    have hx91 := (blk_cell hx9 1).trans rfl
    have hx92 := (blk_cell hx9 2).trans rfl
    have hx93 := (blk_cell hx9 3).trans rfl
    have ht2 := (blk_cell hS9.1.2 2).trans rfl
    have HS9 := Aside0.mk hS9
    have HX9 := Aside0.mk hx9
    clear hS9 hS8 hk8 hx8 hx9 HS7
    go_wp2_with (first | ((with_reducible refine gate_builtin (b := .append) (xs := #[.tmp 51, .tmp 53]) rfl ?_); at_builtin; refine Kd.R_append k24 (w0 := w) w.heap.size rfl (.tmp 51) (.tmp 53) 25 24 (.agg #[(.string ⟨#[]⟩), (.int .i64 0), (.string ⟨#[]⟩), (.bool false)]) 48 rfl Try.underlying25 info24 rfl (by decide) (by omega) vr rs' (⟨p, q, v, f == 1⟩ : S24) [.string p, .int .i64 q, .string v, .bool (f == 1)] (fun k_ => k_ ≠ w7.heap.size) (fun _ => False) rfl (by first | (go_simp; done) | (go_simp; rfl)) (k24_mkM _ _ _ (⟨p, q, v, f == 1⟩ : S24)) (fun _ hk => hk.elim) (fun k_ hk => by have := blk_lt HX9.out; omega) HS9.out.2.2.1 HS9.out.2.2.2.2 HS9.out.2.2.2.2.size (by have := HLen.out; omega) ?_; intro v1 w10 ho hb hg hat; obtain ⟨Av, cv, rfl⟩ := Kd.R_slice ho; have HO := Aside0.mk ho; have HB10 := Aside0.mk hb; have HG := Aside0.mk hg; have hf10 := blk_frozen (blk_grown HS9.out.1.2 hg (Kd.R_ne HS9.out.2.2.1 HS9.out.1.2 (by decide))) 2; have hc10 := (blk_cell (blk_grown HS9.out.1.2 hg (Kd.R_ne HS9.out.2.2.1 HS9.out.1.2 (by decide))) 2).trans rfl; clear ho hb hg hat hx90 hx91 hx92 hx93 ht2 hcx hfx))
    have HS11 := Aside0.mk ((HS9.out.put_r HO.out HB10.out HG.out).mono (ok' := fun _ => True) (fun _ _ => trivial))
    clear HS9 HX9 HO HB10 HG hf10 hc10
    go_roundg k1
    case measure => have := HK1.out; omega
    case rel => exact ⟨wrap64 (i' - 1), n10, b10, _, _, (by first | rfl | (simp; done) | (simp [*]; done)), HA2, ⟨by have := HK1.out; omega⟩, ⟨by have h_ := HS11.out; simp only [List.length_append, List.length_singleton] at h_; exact h_⟩⟩
   ·have hA := HA.out
    unfold takeR at hA
    rw [if_neg hc] at hA
    simp only [Option.some.injEq, Prod.mk.injEq] at hA
    obtain ⟨rfl, rfl, rfl⟩ := hA
    have hx : decide (0 < i') = false ∨ (decide (0 < i') = true ∧ bad' = true) := by
     by_cases h0 : 0 < i'
     ·exact .inr ⟨decide_eq_true h0, by cases bad' <;> simp_all⟩
     ·exact .inl (decide_eq_false h0)
    clear hc HA
    rcases hx with hd | ⟨hd, rfl⟩
    all_goals
     go_wp2_with fail
     refine (TkSt.num HR.out HC.out HS.out H5.out).mono ?_
     rintro e w12 ⟨rfl, hS, _⟩
     have HS12 := Aside0.mk hS
     clear hS
     clear HSb HS HK1 hd
     go_wp2_with fail
     go_loopg [10] k (fun kq v10 w' => ∃ (i2 m2 : Int) (bad2 : Bool) (vw : Value) (ws' : List (S27)), v10 = .int .i64 i2 ∧ Aside0 (takeW kq l0 i2 m2 bad2 ws' = some (ws, n6, b6)) ∧ Aside0 (kq ≤ k) ∧ Aside0 (TkSt (fun _ => True) w w' (w.heap.size + 1) w.heap.size A0 c0 l0 m2 bad2 a b vr rs' vw ws'))
     case atStart => exact ⟨j, n5, b5, _, [], rfl, H6, ⟨Nat.le_refl _⟩, HS12⟩
     case round =>
      clear H5 H6 HS12
      obtain ⟨i2, m2, bad2, vw, ws', rfl, HA, HK1, HS⟩ := hrel
      have HSb := HS.out.bad_cell
      cases gk with
      | zero => exact absurd HA.out (by simp [takeW])
      | succ k2 =>
       by_cases hc : 0 < i2 ∧ bad2 = false
       ·have hA := HA.out
        unfold takeW at hA
        rw [if_pos hc] at hA
        obtain ⟨h0, rfl⟩ := hc
        obtain ⟨⟨p, n7, b7⟩, h7, hA⟩ := Option.bind_eq_some_iff.1 hA
        obtain ⟨⟨v, n9, b9⟩, h9, hA⟩ := Option.bind_eq_some_iff.1 hA
        obtain ⟨⟨f, n10, b10⟩, h10, hA⟩ := Option.bind_eq_some_iff.1 hA
        have H7 := Aside0.mk h7
        have H9 := Aside0.mk h9
        have H10 := Aside0.mk h10
        dsimp only at hA
        have hlen : ws'.length < 1000000 := Decidable.byContradiction fun hn => by rw [if_neg hn] at hA; cases hA
        rw [if_pos hlen] at hA
        have HA2 := Aside0.mk hA
        have HLen := Aside0.mk hlen
        clear h7 h9 h10 hA HA hlen
        repeat clear hA
        have hd : decide (0 < i2) = true := decide_eq_true h0
        clear h0
        go_wp2_with fail
        refine (TkSt.text HR.out HC.out HS.out H7.out).mono ?_
        rintro e w5 ⟨rfl, hS5, _⟩
        have HS5 := Aside0.mk hS5
        clear hS5
        go_wp2_with fail
        refine (TkSt.text HR.out HC.out HS5.out H9.out).mono ?_
        rintro e w7 ⟨rfl, hS7, _⟩
        have HS7 := Aside0.mk hS7.elder
        clear HS5
        have hgl : w.heap.size + 1 < w7.heap.size := blk_lt hS7.1.1
        have HGL := Aside0.mk hgl
        clear hS7 hgl
        go_wp2_with fail
        refine (TkSt.num HR.out HC.out (HS7.out.alloc _) H10.out).mono ?_
        rintro e w8 ⟨rfl, hS8, hk8⟩
        have hx8 : w8.heap[w7.heap.size]? = some (.cells #[.string p, .string v, .bool false] 27 (0, 0)) := hk8.blk (heap_alloc_new w7 _) (by have := HGL.out; omega) (by simp)
        have hfx := blk_frozen hx8 2
        have hcx := (blk_cell hx8 2).trans rfl
        have hx9 : (w8.setCell ⟨w7.heap.size, 2, none⟩ (.bool (f == 1))).heap[w7.heap.size]? = some (.cells #[.string p, .string v, .bool (f == 1)] 27 (0, 0)) := by simpa using blk_set hx8 2 (.bool (f == 1))
        have hS9 := hS8.far (by have := HGL.out; omega) (by have := HGL.out; omega) (by have := HGL.out; omega) 2 (.bool (f == 1))
        have hx90 := (blk_cell hx9 0).trans rfl
        have hx91 := (blk_cell hx9 1).trans rfl
        have hx92 := (blk_cell hx9 2).trans rfl
        have ht3 := (blk_cell hS9.1.2 3).trans rfl
        have HS9 := Aside0.mk hS9
        have HX9 := Aside0.mk hx9
        clear hS9 hS8 hk8 hx8 hx9 HS7
        go_wp2_with (first | ((with_reducible refine gate_builtin (b := .append) (xs := #[.tmp 79, .tmp 81]) rfl ?_); at_builtin; refine Kd.R_append k27 (w0 := w) w.heap.size rfl (.tmp 79) (.tmp 81) 28 27 (.agg #[(.string ⟨#[]⟩), (.string ⟨#[]⟩), (.bool false)]) 40 rfl Try.underlying28 info27 rfl (by decide) (by omega) vw ws' (⟨p, v, f == 1⟩ : S27) [.string p, .string v, .bool (f == 1)] (fun k_ => k_ ≠ w7.heap.size) (fun _ => False) rfl (by first | (go_simp; done) | (go_simp; rfl)) (k27_mkM _ _ _ (⟨p, v, f == 1⟩ : S27)) (fun _ hk => hk.elim) (fun k_ hk => by have := blk_lt HX9.out; omega) HS9.out.2.2.2.1 HS9.out.2.2.2.2 HS9.out.2.2.2.2.size (by have := HLen.out; omega) ?_; intro v1 w10 ho hb hg hat; obtain ⟨Av, cv, rfl⟩ := Kd.R_slice ho; have HO := Aside0.mk ho; have HB10 := Aside0.mk hb; have HG := Aside0.mk hg; have hf10 := blk_frozen (blk_grown HS9.out.1.2 hg (Kd.R_ne HS9.out.2.2.2.1 HS9.out.1.2 (by decide))) 3; have hc10 := (blk_cell (blk_grown HS9.out.1.2 hg (Kd.R_ne HS9.out.2.2.2.1 HS9.out.1.2 (by decide))) 3).trans rfl; clear ho hb hg hat hx90 hx91 hx92 ht3 hcx hfx))
        have HS11 := Aside0.mk ((HS9.out.put_w HO.out HB10.out HG.out).mono (ok' := fun _ => True) (fun _ _ => trivial))
        clear HS9 HX9 HO HB10 HG hf10 hc10
        go_roundg k2
        case measure => have := HK1.out; omega
        case rel => exact ⟨wrap64 (i2 - 1), n10, b10, _, _, (by first | rfl | (simp; done) | (simp [*]; done)), HA2, ⟨by have := HK1.out; omega⟩, ⟨by have h_ := HS11.out; simp only [List.length_append, List.length_singleton] at h_; exact h_⟩⟩
       ·have hA := HA.out
        unfold takeW at hA
        rw [if_neg hc] at hA
        simp only [Option.some.injEq, Prod.mk.injEq] at hA
        obtain ⟨rfl, rfl, rfl⟩ := hA
        have hx : decide (0 < i2) = false ∨ (decide (0 < i2) = true ∧ bad2 = true) := by
         by_cases h0 : 0 < i2
         ·exact .inr ⟨decide_eq_true h0, by cases bad2 <;> simp_all⟩
         ·exact .inl (decide_eq_false h0)
        have hS := HS.out
        obtain ⟨A1, c1, rfl⟩ := Kd.R_slice hS.2.2.1
        obtain ⟨A2, c2, rfl⟩ := Kd.R_slice hS.2.2.2.1
        have ht0 := (blk_cell hS.1.2 0).trans rfl
        have ht1 := (blk_cell hS.1.2 1).trans rfl
        have ht2 := (blk_cell hS.1.2 2).trans rfl
        have ht3 := (blk_cell hS.1.2 3).trans rfl
        clear hc HA hS
        rcases hx with hd | ⟨hd, hbt⟩
        all_goals
         (try rw [hbt] at HSb)
         go_wp2_with fail
         clear ht0 ht1 ht2 ht3 HSb
         have hP := H.out
         unfold takeEnd at hP
         obtain ⟨c, hc, hP⟩ := Option.bind_eq_some_iff.1 hP
         refine (txn_Put.calls k a b A1 c1 rs' A2 c2 ws' c _ (Kd.R_reads' HS.out.2.2.1).2.2 (Kd.R_reads' HS.out.2.2.1).2.1 (Kd.R_reads' HS.out.2.2.2.1).2.2 (Kd.R_reads' HS.out.2.2.2.1).2.1 hc).mono ?_
         rintro e w13 ⟨v0, rfl, ho, hb⟩
         obtain ⟨Ac, cc, rfl⟩ := Kd.R_slice ho
         have HRc := Aside0.mk (Kd.R_reads' ho).2.2
         have HCc := Aside0.mk (Kd.R_reads' ho).2.1
         have hS13 := HS.out.below hb
         have HS13 := Aside0.mk hS13
         have hb2 := hS13.bad_cell
         have hn1 := hS13.1.1.c1
         have hg0 := blk_frozen hS13.1.2 0
         have hg1 := blk_frozen hS13.1.2 1
         have hg2 := blk_frozen hS13.1.2 2
         have hg3 := blk_frozen hS13.1.2 3
         have ht0 := (blk_cell hS13.1.2 0).trans rfl
         have ht1 := (blk_cell hS13.1.2 1).trans rfl
         have ht2 := (blk_cell hS13.1.2 2).trans rfl
         have ht3 := (blk_cell hS13.1.2 3).trans rfl
         clear hS13 ho hb hc HS
         by_cases hbd : bad2 = true
         ·rw [if_pos hbd] at hP
          simp only [Option.some.injEq, Prod.mk.injEq] at hP
          obtain ⟨rfl, rfl, rfl, rfl, rfl, rfl⟩ := hP
          rw [hbd] at hb2
          go_wp2_with fail
          have hz : ((((w13.setCell ⟨w.heap.size, 0, none⟩ (.int .i64 0)).setCell ⟨w.heap.size, 1, none⟩ (.int .i64 0)).setCell ⟨w.heap.size, 2, none⟩ (.slice none 0 0)).setCell ⟨w.heap.size, 3, none⟩ (.slice none 0 0)).heap[w.heap.size]? = some (.cells #[.int .i64 0, .int .i64 0, .slice none 0 0, .slice none 0 0] 30 (0, 0)) := by
           have h_ := blk_set (blk_set (blk_set (blk_set HS13.out.1.2 0 (.int .i64 0)) 1 (.int .i64 0)) 2 (.slice none 0 0)) 3 (.slice none 0 0)
           simpa using h_
          (try simp only [Exit.inBlock, Exit.then])
          refine bodyPost_ret (results_ctt rfl _ _ w.heap.size 30 _ _ _ rfl hz Try.underlying30 rfl rfl) rfl ?_
          exact ⟨_, _, rfl, Kd.R_nil _ _ _ _ _, Kd.R_nil _ _ _ _ _, below_set (below_set (below_set (below_set HS13.out.2.2.2.2 (Nat.le_refl _)) (Nat.le_refl _)) (Nat.le_refl _)) (Nat.le_refl _)⟩
         ·have hbf : bad2 = false := by simpa using hbd
          rw [if_neg hbd] at hP
          rw [hbf] at hb2
          by_cases hcl : 0 < c.length
          ·rw [if_pos hcl] at hP
           obtain ⟨hh, hhp, hP⟩ := Option.bind_eq_some_iff.1 hP
           have hnn : Ac.isNone = false := HW.nonnil HRc.out hcl
           have heq := fun W => Lib.run_eql_slice_nil (P := Try.prog) W 33 5 Ac c.length cc 0 0 Try.underlying33
           have HPre := Aside0.mk (bytes_HasPrefix.calls A0 c0 l0 Ac cc c hh w13 (Kd.C_below HR.out HS13.out.2.2.2.2) HC.out HRc.out HCc.out hhp)
           clear hhp hcl hbd hbf
           have HP := Aside0.mk hP
           clear hP
           cases hh
           ·go_wp2_with fail
            (with_reducible refine HPre.out.mono ?_)
            rintro e w14 ⟨rfl, ⟨nd, rfl⟩⟩
            go_wp2_with fail
            have hP := HP.out
            rw [if_neg (by decide)] at hP
            simp only [Option.some.injEq, Prod.mk.injEq] at hP
            obtain ⟨rfl, rfl, rfl, rfl, rfl, rfl⟩ := hP
            have hz : (((((w13.drewN nd).setCell ⟨w.heap.size, 0, none⟩ (.int .i64 0)).setCell ⟨w.heap.size, 1, none⟩ (.int .i64 0)).setCell ⟨w.heap.size, 2, none⟩ (.slice none 0 0)).setCell ⟨w.heap.size, 3, none⟩ (.slice none 0 0)).heap[w.heap.size]? = some (.cells #[.int .i64 0, .int .i64 0, .slice none 0 0, .slice none 0 0] 30 (0, 0)) := by
             have h_ := blk_set (blk_set (blk_set (blk_set (HS13.out.drewN nd).1.2 0 (.int .i64 0)) 1 (.int .i64 0)) 2 (.slice none 0 0)) 3 (.slice none 0 0)
             simpa using h_
            (try simp only [Exit.inBlock, Exit.then])
            refine bodyPost_ret (results_ctt rfl _ _ w.heap.size 30 _ _ _ rfl hz Try.underlying30 rfl rfl) rfl ?_
            exact ⟨_, _, rfl, Kd.R_nil _ _ _ _ _, Kd.R_nil _ _ _ _ _, below_set (below_set (below_set (below_set (HS13.out.drewN nd).2.2.2.2 (Nat.le_refl _)) (Nat.le_refl _)) (Nat.le_refl _)) (Nat.le_refl _)⟩
           ·have hP := HP.out
            rw [if_pos rfl] at hP
            by_cases hn : (c.length : Int) = m2
            ·rw [if_pos hn] at hP
             simp only [Option.some.injEq, Prod.mk.injEq] at hP
             obtain ⟨rfl, rfl, rfl, rfl, rfl, rfl⟩ := hP
             have hne : ((c.length : Int) != m2) = false := by simp [hn]
             go_wp2_with fail
             (with_reducible refine HPre.out.mono ?_)
             rintro e w14 ⟨rfl, ⟨nd, rfl⟩⟩
             go_wp2_with fail
             have hS14 := HS13.out.drewN nd
             have HC14 := Aside0.mk hS14.cells
             have HCz := Aside0.mk hS14.drew.same.cells
             have HS14 := Aside0.mk hS14
             have hf0 := blk_frozen hS14.1.2 0
             have hf1 := blk_frozen hS14.1.2 1
             have hf2 := blk_frozen hS14.1.2 2
             have hf3 := blk_frozen hS14.1.2 3
             clear hS14
             go_region_held3 (fun w' => w'.cell? ⟨w.heap.size, 0, none⟩ = some (.int .i64 a) ∧ w'.cell? ⟨w.heap.size, 1, none⟩ = some (.int .i64 b) ∧ w'.cell? ⟨w.heap.size, 2, none⟩ = some (.slice A1 rs'.length c1) ∧ w'.cell? ⟨w.heap.size, 3, none⟩ = some (.slice A2 ws'.length c2) ∧ w'.cell? ⟨w.heap.size + 1, 1, none⟩ = some (.int .i64 m2)) (first | exact HC14.out | exact HCz.out) (fail)
             have hSz := (HS13.out.drewN (nd + 1)).same
             (try go_wp2_with fail)
             (try simp only [Exit.inBlock, Exit.then])
             refine bodyPost_ret (results_ctt rfl _ _ w.heap.size 30 _ _ _ rfl hSz.1.2 Try.underlying30 rfl rfl) rfl ?_
             exact ⟨_, _, rfl, hSz.2.2.1, hSz.2.2.2.1, hSz.2.2.2.2⟩
            ·rw [if_neg hn] at hP
             simp only [Option.some.injEq, Prod.mk.injEq] at hP
             obtain ⟨rfl, rfl, rfl, rfl, rfl, rfl⟩ := hP
             have hne : ((c.length : Int) != m2) = true := by simp [hn]
             go_wp2_with fail
             (with_reducible refine HPre.out.mono ?_)
             rintro e w14 ⟨rfl, ⟨nd, rfl⟩⟩
             go_wp2_with fail
             have hz : (((((w13.drewN nd).setCell ⟨w.heap.size, 0, none⟩ (.int .i64 0)).setCell ⟨w.heap.size, 1, none⟩ (.int .i64 0)).setCell ⟨w.heap.size, 2, none⟩ (.slice none 0 0)).setCell ⟨w.heap.size, 3, none⟩ (.slice none 0 0)).heap[w.heap.size]? = some (.cells #[.int .i64 0, .int .i64 0, .slice none 0 0, .slice none 0 0] 30 (0, 0)) := by
              have h_ := blk_set (blk_set (blk_set (blk_set (HS13.out.drewN nd).1.2 0 (.int .i64 0)) 1 (.int .i64 0)) 2 (.slice none 0 0)) 3 (.slice none 0 0)
              simpa using h_
             (try simp only [Exit.inBlock, Exit.then])
             refine bodyPost_ret (results_ctt rfl _ _ w.heap.size 30 _ _ _ rfl hz Try.underlying30 rfl rfl) rfl ?_
             exact ⟨_, _, rfl, Kd.R_nil _ _ _ _ _, Kd.R_nil _ _ _ _ _, below_set (below_set (below_set (below_set (HS13.out.drewN nd).2.2.2.2 (Nat.le_refl _)) (Nat.le_refl _)) (Nat.le_refl _)) (Nat.le_refl _)⟩
          ·rw [if_neg hcl] at hP
           cases hP
end Go.Proofs.Ytnlfhbohcgjcbaa.PA
namespace Go.Proofs.Ytnlfhbohcgjcbaa.PA
open Go.RowKit Go.Proofs.YtnlfhbohcgjcbaaW.PrintWords Go.Proofs.YtnlfhbohcgjcbaaW.PrintLast Go.Proofs.YtnlfhbohcgjcbaaW.PrintMore
attribute [local go_sem] max2_int min2_int max_two min_two max_three min_three max_four min_four
set_option linter.unusedVariables false
set_option linter.unusedSimpArgs false
def diwanlaw5_begun.f (k : Nat)  : Option (Bool) := (some (([(⟨(⟨#[97]⟩ : ByteArray), (⟨#[118]⟩ : ByteArray), false⟩ : S27)] : List (S27)) : List (S27))).bind fun y1 => ((txn_Put.f k 1 1 ([] : List (S24)) y1).bind fun t5 => ((txn_Take.f k t5).bind fun bt8 => ((txn_Take.f k ([] : List Int)).bind fun bt19 => ((txn_May.f k 1 1 ([] : List (S24)) y1).bind fun t30 => (if t30 = true then (if (strOfNums t5).toList = ([1, 1, 0, 1, 1, 97, 1, 118, 0] : List UInt8) then (if bt8.2.2.2.2.2 = true then (if bt8.2.2.2.2.1 = (t5.length : Int) then ((txn_Same.f k bt8.1 bt8.2.1 bt8.2.2.1 bt8.2.2.2.1 1 1 ([] : List (S24)) y1).bind fun t31 => (if t31 = true then (if bt19.2.2.2.2.2 = true then (none) else ((txn_Touches.f k 1 1 ([] : List (S24)) y1 1 3).bind fun t32 => (if t32 = true then ((txn_Reads.f k 1 1 ([] : List (S24)) y1 3).bind fun t33 => (some ((t33.length : Int) == 0))) else (none)))) else (none))) else (none)) else (none)) else (none)) else (none))))))
set_option maxHeartbeats 8000000 in
set_option maxRecDepth 100000 in
theorem diwanlaw5_begun.calls (k : Nat)  (r : Bool) (w : World) (h : diwanlaw5_begun.f k  = some r) :
  Calls Try.prog 17 #[] w fun e w' => e = .returned (.bool r) ∧ Below w.heap.size w w' := by
 have hu27 := Try.underlying27
 have hu30 := Try.underlying30
 have HB := Aside0.mk (Below.refl w.heap.size w)
 have H : ((some (([(⟨(⟨#[97]⟩ : ByteArray), (⟨#[118]⟩ : ByteArray), false⟩ : S27)] : List (S27)) : List (S27))).bind fun y1 => ((txn_Put.f k 1 1 ([] : List (S24)) y1).bind fun t5 => ((txn_Take.f k t5).bind fun bt8 => ((txn_Take.f k ([] : List Int)).bind fun bt19 => ((txn_May.f k 1 1 ([] : List (S24)) y1).bind fun t30 => (if t30 = true then (if (strOfNums t5).toList = ([1, 1, 0, 1, 1, 97, 1, 118, 0] : List UInt8) then (if bt8.2.2.2.2.2 = true then (if bt8.2.2.2.2.1 = (t5.length : Int) then ((txn_Same.f k bt8.1 bt8.2.1 bt8.2.2.1 bt8.2.2.2.1 1 1 ([] : List (S24)) y1).bind fun t31 => (if t31 = true then (if bt19.2.2.2.2.2 = true then (none) else ((txn_Touches.f k 1 1 ([] : List (S24)) y1 1 3).bind fun t32 => (if t32 = true then ((txn_Reads.f k 1 1 ([] : List (S24)) y1 3).bind fun t33 => (some ((t33.length : Int) == 0))) else (none)))) else (none))) else (none)) else (none)) else (none)) else (none))))))) = some r := h
 clear h
 obtain ⟨y1, hy1⟩ : ∃ y_ : List (S27), y_ = (([(⟨(⟨#[97]⟩ : ByteArray), (⟨#[118]⟩ : ByteArray), false⟩ : S27)] : List (S27))) := ⟨_, rfl⟩
 replace H : ((txn_Put.f k 1 1 ([] : List (S24)) y1).bind fun t5 => ((txn_Take.f k t5).bind fun bt8 => ((txn_Take.f k ([] : List Int)).bind fun bt19 => ((txn_May.f k 1 1 ([] : List (S24)) y1).bind fun t30 => (if t30 = true then (if (strOfNums t5).toList = ([1, 1, 0, 1, 1, 97, 1, 118, 0] : List UInt8) then (if bt8.2.2.2.2.2 = true then (if bt8.2.2.2.2.1 = (t5.length : Int) then ((txn_Same.f k bt8.1 bt8.2.1 bt8.2.2.1 bt8.2.2.2.1 1 1 ([] : List (S24)) y1).bind fun t31 => (if t31 = true then (if bt19.2.2.2.2.2 = true then (none) else ((txn_Touches.f k 1 1 ([] : List (S24)) y1 1 3).bind fun t32 => (if t32 = true then ((txn_Reads.f k 1 1 ([] : List (S24)) y1 3).bind fun t33 => (some ((t33.length : Int) == 0))) else (none)))) else (none))) else (none)) else (none)) else (none)) else (none)))))) = some r := by first | (rw [hy1]; with_reducible exact H) | (have H2_ := (Option.bind_some _ _).symm.trans H; rw [hy1]; with_reducible exact H2_) | (have H2_ := (Option.bind_some _ _).symm.trans H; with_reducible exact H2_) | with_reducible exact H | (rw [hy1]; exact H) | exact H
 have Ny1 := Aside0.mk hy1
 clear hy1
 replace H := Option.bind_eq_some_iff.mp H
 obtain ⟨t5, A10, H⟩ := H
 (try dsimp only at H)
 have A1 := Aside0.mk A10
 clear A10
 replace H := Option.bind_eq_some_iff.mp H
 obtain ⟨⟨t8, t9, t10, t13, t16, t17⟩, A20, H⟩ := H
 (try dsimp only at H)
 have A2 := Aside0.mk A20
 clear A20
 replace H := Option.bind_eq_some_iff.mp H
 obtain ⟨⟨t19, t20, t21, t24, t27, t28⟩, A30, H⟩ := H
 (try dsimp only at H)
 have A3 := Aside0.mk A30
 clear A30
 replace H := Option.bind_eq_some_iff.mp H
 obtain ⟨t30, A40, H⟩ := H
 (try dsimp only at H)
 have A4 := Aside0.mk A40
 clear A40
 by_cases c5 : t30 = true
 ·subst c5
  have H1 : (if (strOfNums t5).toList = ([1, 1, 0, 1, 1, 97, 1, 118, 0] : List UInt8) then (if t17 = true then (if t16 = (t5.length : Int) then ((txn_Same.f k t8 t9 t10 t13 1 1 ([] : List (S24)) y1).bind fun t31 => (if t31 = true then (if t28 = true then (none) else ((txn_Touches.f k 1 1 ([] : List (S24)) y1 1 3).bind fun t32 => (if t32 = true then ((txn_Reads.f k 1 1 ([] : List (S24)) y1 3).bind fun t33 => (some ((t33.length : Int) == 0))) else (none)))) else (none))) else (none)) else (none)) else (none)) = some r := by rw [if_pos rfl] at H; exact H
  clear H
  have H := H1
  clear H1
  by_cases c6 : (strOfNums t5).toList = ([1, 1, 0, 1, 1, 97, 1, 118, 0] : List UInt8)
  ·rw [if_pos c6] at H
   have c6b0 : ((strOfNums t5).toList == ([1, 1, 0, 1, 1, 97, 1, 118, 0] : List UInt8)) = true := beq_iff_eq.mpr c6
   have c6b1 : ((strOfNums t5).toList != ([1, 1, 0, 1, 1, 97, 1, 118, 0] : List UInt8)) = false := bne_eq_false_iff_eq.mpr c6
   clear c6
   by_cases c7 : t17 = true
   ·subst c7
    have H1 : (if t16 = (t5.length : Int) then ((txn_Same.f k t8 t9 t10 t13 1 1 ([] : List (S24)) y1).bind fun t31 => (if t31 = true then (if t28 = true then (none) else ((txn_Touches.f k 1 1 ([] : List (S24)) y1 1 3).bind fun t32 => (if t32 = true then ((txn_Reads.f k 1 1 ([] : List (S24)) y1 3).bind fun t33 => (some ((t33.length : Int) == 0))) else (none)))) else (none))) else (none)) = some r := by rw [if_pos rfl] at H; exact H
    clear H
    have H := H1
    clear H1
    by_cases c8 : t16 = (t5.length : Int)
    ·rw [if_pos c8] at H
     have c8b0 : (t16 == (t5.length : Int)) = true := beq_iff_eq.mpr c8
     have c8b1 : (t16 != (t5.length : Int)) = false := bne_eq_false_iff_eq.mpr c8
     clear c8
     replace H := Option.bind_eq_some_iff.mp H
     obtain ⟨t31, A90, H⟩ := H
     (try dsimp only at H)
     have A9 := Aside0.mk A90
     clear A90
     by_cases c10 : t31 = true
     ·subst c10
      have H1 : (if t28 = true then (none) else ((txn_Touches.f k 1 1 ([] : List (S24)) y1 1 3).bind fun t32 => (if t32 = true then ((txn_Reads.f k 1 1 ([] : List (S24)) y1 3).bind fun t33 => (some ((t33.length : Int) == 0))) else (none)))) = some r := by rw [if_pos rfl] at H; exact H
      clear H
      have H := H1
      clear H1
      by_cases c11 : t28 = true
      ·subst c11
       have H1 : (none) = some r := by rw [if_pos rfl] at H; exact H
       clear H
       have H := H1
       clear H1
       exact absurd H (by simp)
      ·replace c11 := Bool.eq_false_iff.mpr c11
       subst c11
       have H1 : ((txn_Touches.f k 1 1 ([] : List (S24)) y1 1 3).bind fun t32 => (if t32 = true then ((txn_Reads.f k 1 1 ([] : List (S24)) y1 3).bind fun t33 => (some ((t33.length : Int) == 0))) else (none))) = some r := by rw [if_neg (show ¬ (false = true) by decide)] at H; exact H
       clear H
       have H := H1
       clear H1
       replace H := Option.bind_eq_some_iff.mp H
       obtain ⟨t32, A120, H⟩ := H
       (try dsimp only at H)
       have A12 := Aside0.mk A120
       clear A120
       by_cases c13 : t32 = true
       ·subst c13
        have H1 : ((txn_Reads.f k 1 1 ([] : List (S24)) y1 3).bind fun t33 => (some ((t33.length : Int) == 0))) = some r := by rw [if_pos rfl] at H; exact H
        clear H
        have H := H1
        clear H1
        replace H := Option.bind_eq_some_iff.mp H
        obtain ⟨t33, A140, H⟩ := H
        (try dsimp only at H)
        have A14 := Aside0.mk A140
        clear A140
        obtain rfl := Option.some.inj H
        go_enter Try.func17, Try.ntmps17
        go_wp2_with (first | ((with_reducible refine gate_dst (N := 10) rfl ?_); (try (refine gate_guard (by rfl) ?_; dsimp only)); refine Kd.R_lit k27 _ 27 ?hg (N := 10) ?hd (xs := ([(⟨(⟨#[97]⟩ : ByteArray), (⟨#[118]⟩ : ByteArray), false⟩ : S27)] : List (S27))) (inner := [.string (⟨#[97]⟩ : ByteArray), .string (⟨#[118]⟩ : ByteArray), .bool false]) (ok := fun _ => True) (okp := fun _ => True) ?hr ?hp (fun _ hk => hk) trivial (Below.refl _ _) (Nat.le_refl _) (by simp) ?_; (case hd => rfl); (case hg => rfl); (case hr => first | (go_simp; done) | (go_simp; rfl)); (case hp => exact (Reps.c3 (show Kd.M k27 _ _ _ (⟨(⟨#[97]⟩ : ByteArray), (⟨#[118]⟩ : ByteArray), false⟩ : S27) [.string (⟨#[97]⟩ : ByteArray), .string (⟨#[118]⟩ : ByteArray), .bool false] from (k27_mkM _ _ _ (⟨(⟨#[97]⟩ : ByteArray), (⟨#[118]⟩ : ByteArray), false⟩ : S27) )) (Reps.none _ _))); intro v2 w15 ho16 hb hg_ hnew_; clear hg_ hnew_; (first | rw [← Ny1.out] at ho16 | (simp only [Int.reduceToNat] at ho16; rw [← Ny1.out] at ho16)); have n0_ := Aside0.mk (Kd.R_lower ho16 (below_size (by repeat (with_reducible first | exact HB.out | apply ba_ | apply bn_ | apply bd_)))); have n1_ := Aside0.mk (below_step (by repeat (with_reducible first | exact HB.out | apply ba_ | apply bn_ | apply bd_)) hb); clear HB; have HO3 := n0_; have HB := n1_; clear n0_ n1_; clear hb ho16; obtain ⟨Ao17, co17, eo17⟩ := Kd.R_slice HO3.out; subst eo17) | ((with_reducible refine gate_dst (N := 1) rfl ?_); (try (refine gate_guard (by rfl) ?_; dsimp only)); refine box_event ?hg (N := 1) ?hd (cs := #[.int .i64 0, .int .i64 0, .slice none 0 0, .slice none 0 0]) (t := 30) ?hr ?_; (case hd => rfl); (case hg => rfl); (case hr => first | (go_simp; done) | (go_simp; rfl)); intro gb4 hg w18 hbox hb; have n0_ := Aside0.mk (Kd.R_below (by (with_reducible repeat (first | apply ra_ | apply rn_ | apply rd_)); exact HO3.out) hb); have n1_ := Aside0.mk (below_step (by repeat (with_reducible first | exact HB.out | apply ba_ | apply bn_ | apply bd_)) hb); have n2_ := Aside0.mk (hbox); have n3_ := Aside0.mk ((by rw [hg]; exact (below_size (by repeat (with_reducible first | exact HB.out | apply ba_ | apply bn_ | apply bd_))) : w.heap.size ≤ gb4)); have n4_ := Aside0.mk ((by rw [hg]; exact (below_size (by repeat (with_reducible first | exact HB.out | apply ba_ | apply bn_ | apply bd_))) : w.heap.size ≤ gb4)); clear HO3; clear HB; have HO3 := n0_; have HB := n1_; have BK4 := n2_; have GW4 := n3_; have GE4 := n4_; clear n0_ n1_ n2_ n3_ n4_; clear hb hbox hg; have hcz19_0 : w18.cell? ⟨gb4, 0, none⟩ = some (.int .i64 0) := (blk_cell BK4.out 0).trans rfl; have hcz19_1 : w18.cell? ⟨gb4, 1, none⟩ = some (.int .i64 0) := (blk_cell BK4.out 1).trans rfl; have hcz19_2 : w18.cell? ⟨gb4, 2, none⟩ = some (.slice none 0 0) := (blk_cell BK4.out 2).trans rfl; have hcz19_3 : w18.cell? ⟨gb4, 3, none⟩ = some (.slice none 0 0) := (blk_cell BK4.out 3).trans rfl; have hfz19_0 := blk_frozen BK4.out 0; have hfz19_1 := blk_frozen BK4.out 1; have hfz19_2 := blk_frozen BK4.out 2; have hfz19_3 := blk_frozen BK4.out 3) | ((with_reducible refine gate_callee (f := 19) rfl ?_); refine goesM_ (some 13) Try.func19 #[.agg #[.int .i64 1, .int .i64 1, .slice none 0 0, .slice Ao17 y1.length co17]] ?_; (refine (txn_Put.calls k 1 1 _ _ ([] : List (S24)) _ _ y1 t5 _ ?side1 ?side2 ?side3 ?side4 A1.out).mono ?_); (case side1 => exact Kd.C_nil _ _); (case side2 => exact Nat.le_refl _); (case side3 => refine (Kd.R_reads' (e := 27) (base := w.heap.size) (ok := fun k_ => True) (n := y1.length) (c := co17) ?_).2.2; exact (by (with_reducible repeat (first | apply ra_ | apply rn_ | apply rd_)); exact (Kd.R_mono (Kd.R_far (p := ⟨gb4, 3, none⟩) (Kd.R_far (p := ⟨gb4, 2, none⟩) (Kd.R_far (p := ⟨gb4, 1, none⟩) (Kd.R_far (p := ⟨gb4, 0, none⟩) (Kd.R_types HO3.out BK4.out (by decide)) (fun _ hk => hk.2) (.int .i64 1)) (fun _ hk => hk.2) (.int .i64 1)) (fun _ hk => hk.2) (.slice none 0 0)) (fun _ hk => hk.2) (.slice Ao17 y1.length co17)) (fun _ h_ => h_.1)))); (case side4 => exact (Kd.R_reads' HO3.out).2.1); rintro e w20 ⟨v6, rfl, ho0, hb⟩; refine ⟨_, rfl, ?_⟩; have n0_ := Aside0.mk (Kd.R_below (by (with_reducible repeat (first | apply ra_ | apply rn_ | apply rd_)); exact (Kd.R_mono (Kd.R_far (p := ⟨gb4, 3, none⟩) (Kd.R_far (p := ⟨gb4, 2, none⟩) (Kd.R_far (p := ⟨gb4, 1, none⟩) (Kd.R_far (p := ⟨gb4, 0, none⟩) (Kd.R_types HO3.out BK4.out (by decide)) (fun _ hk => hk.2) (.int .i64 1)) (fun _ hk => hk.2) (.int .i64 1)) (fun _ hk => hk.2) (.slice none 0 0)) (fun _ hk => hk.2) (.slice Ao17 y1.length co17)) (fun _ h_ => h_.1))) hb); have n1_ := Aside0.mk (Kd.R_lower ho0 (below_size (by repeat (with_reducible first | exact HB.out | apply ba_ | apply bn_ | apply bd_ | refine bs_ ?_ GE4.out)))); have n2_ := Aside0.mk (blk_below (g := gb4) (o := .cells #[.int .i64 1, .int .i64 1, .slice none 0 0, .slice Ao17 y1.length co17] 30 (0, 0)) (by (with_reducible repeat (first | refine kn_ ?_ _ | refine kd_ ?_ | refine ka_ ?_ _)); refine blk_put (cs := #[.int .i64 1, .int .i64 1, .slice none 0 0, .slice none 0 0]) ?_ 3 _ rfl; (with_reducible repeat (first | refine kn_ ?_ _ | refine kd_ ?_ | refine ka_ ?_ _)); refine blk_put (cs := #[.int .i64 1, .int .i64 1, .slice none 0 0, .slice none 0 0]) ?_ 2 _ rfl; (with_reducible repeat (first | refine kn_ ?_ _ | refine kd_ ?_ | refine ka_ ?_ _)); refine blk_put (cs := #[.int .i64 1, .int .i64 0, .slice none 0 0, .slice none 0 0]) ?_ 1 _ rfl; (with_reducible repeat (first | refine kn_ ?_ _ | refine kd_ ?_ | refine ka_ ?_ _)); refine blk_put (cs := #[.int .i64 0, .int .i64 0, .slice none 0 0, .slice none 0 0]) ?_ 0 _ rfl; (with_reducible repeat (first | refine kn_ ?_ _ | refine kd_ ?_ | refine ka_ ?_ _)); exact BK4.out) hb); have n3_ := Aside0.mk (below_step (by repeat (with_reducible first | exact HB.out | apply ba_ | apply bn_ | apply bd_ | refine bs_ ?_ GE4.out)) hb); clear HO3; clear BK4; clear HB; have HO3 := n0_; have HO7 := n1_; have BK4 := n2_; have HB := n3_; clear n0_ n1_ n2_ n3_; clear hb ho0; obtain ⟨Ao21, co21, eo21⟩ := Kd.R_slice HO7.out; subst eo21) | ((with_reducible refine gate_callee (f := 63) rfl ?_); refine goesM_ (some 16) Try.func63 #[.slice Ao21 t5.length co21] ?_; (with_reducible refine (txn_Take.calls k _ _ t5 t8 t9 t10 t13 t16 true _ ?side1 ?side2 A2.out).mono ?_); (case side1 => repeat (first | exact (Kd.R_reads' HO7.out).2.2 | (with_reducible refine ca_ ?_ _) | (with_reducible refine cn_ ?_ _) | (with_reducible refine cd_ ?_))); (case side2 => exact (Kd.R_reads' HO7.out).2.1); rintro e w22 ⟨v11, v14, rfl, ho0, ho1, hb⟩; refine ⟨_, rfl, ?_⟩; have n0_ := Aside0.mk (Kd.R_elder' (by (with_reducible repeat (first | apply ra_ | apply rn_ | apply rd_)); exact HO3.out) (Kd.R_base ho1) hb); have n1_ := Aside0.mk (Kd.R_below (by (with_reducible repeat (first | apply ra_ | apply rn_ | apply rd_)); exact HO7.out) hb); have n2_ := Aside0.mk (Kd.R_lower ho0 (below_size (by repeat (with_reducible first | exact HB.out | apply ba_ | apply bn_ | apply bd_ | refine bs_ ?_ GE4.out)))); have n3_ := Aside0.mk (Kd.R_lower (Kd.R_new' ho1 (Kd.R_lt (by (with_reducible repeat (first | apply ra_ | apply rn_ | apply rd_)); exact HO3.out))) (below_size (by repeat (with_reducible first | exact HB.out | apply ba_ | apply bn_ | apply bd_ | refine bs_ ?_ GE4.out)))); have n4_ := Aside0.mk (blk_below (g := gb4) (o := .cells #[.int .i64 1, .int .i64 1, .slice none 0 0, .slice Ao17 y1.length co17] 30 (0, 0)) (by (with_reducible repeat (first | refine kn_ ?_ _ | refine kd_ ?_ | refine ka_ ?_ _)); exact BK4.out) hb); have n5_ := Aside0.mk (below_step (by repeat (with_reducible first | exact HB.out | apply ba_ | apply bn_ | apply bd_ | refine bs_ ?_ GE4.out)) hb); clear HO3; clear HO7; clear BK4; clear HB; have HO3 := n0_; have HO7 := n1_; have HO12 := n2_; have HO15 := n3_; have BK4 := n4_; have HB := n5_; clear n0_ n1_ n2_ n3_ n4_ n5_; clear hb ho0 ho1) | ((with_reducible refine gate_dst (N := 3) rfl ?_); (try (refine gate_guard (by rfl) ?_; dsimp only)); refine box_event ?hg (N := 3) ?hd (cs := #[.int .i64 0, .int .i64 0, .slice none 0 0, .slice none 0 0]) (t := 30) ?hr ?_; (case hd => rfl); (case hg => rfl); (case hr => first | (go_simp; done) | (go_simp; rfl)); intro gb18 hg w23 hbox hb; have n0_ := Aside0.mk (Kd.R_below (by (with_reducible repeat (first | apply ra_ | apply rn_ | apply rd_)); exact HO3.out) hb); have n1_ := Aside0.mk (Kd.R_below (by (with_reducible repeat (first | apply ra_ | apply rn_ | apply rd_)); exact HO7.out) hb); have n2_ := Aside0.mk (Kd.R_below (by (with_reducible repeat (first | apply ra_ | apply rn_ | apply rd_)); exact HO12.out) hb); have n3_ := Aside0.mk (Kd.R_below (by (with_reducible repeat (first | apply ra_ | apply rn_ | apply rd_)); exact HO15.out) hb); have n4_ := Aside0.mk (blk_below (g := gb4) (o := .cells #[.int .i64 1, .int .i64 1, .slice none 0 0, .slice Ao17 y1.length co17] 30 (0, 0)) (by (with_reducible repeat (first | refine kn_ ?_ _ | refine kd_ ?_ | refine ka_ ?_ _)); exact BK4.out) hb); have n5_ := Aside0.mk (below_step (by repeat (with_reducible first | exact HB.out | apply ba_ | apply bn_ | apply bd_ | refine bs_ ?_ GE4.out)) hb); have n6_ := Aside0.mk (hbox); have n7_ := Aside0.mk ((by rw [hg]; exact (below_size (by repeat (with_reducible first | exact HB.out | apply ba_ | apply bn_ | apply bd_ | refine bs_ ?_ GE4.out))) : w.heap.size ≤ gb18)); have n8_ := Aside0.mk ((by rw [hg]; exact (below_size (by repeat (with_reducible first | exact HB.out | apply ba_ | apply bn_ | apply bd_ | refine bs_ ?_ GE4.out))) : w.heap.size ≤ gb18)); have n9_ := Aside0.mk ((by rw [hg]; exact Nat.ne_of_lt (blk_lt (g := gb4) (o := .cells #[.int .i64 1, .int .i64 1, .slice none 0 0, .slice Ao17 y1.length co17] 30 (0, 0)) (by (with_reducible repeat (first | refine kn_ ?_ _ | refine kd_ ?_ | refine ka_ ?_ _)); exact BK4.out)) : gb4 ≠ gb18)); have n10_ := Aside0.mk ((by rw [hg]; exact Nat.ne_of_gt (blk_lt (g := gb4) (o := .cells #[.int .i64 1, .int .i64 1, .slice none 0 0, .slice Ao17 y1.length co17] 30 (0, 0)) (by (with_reducible repeat (first | refine kn_ ?_ _ | refine kd_ ?_ | refine ka_ ?_ _)); exact BK4.out)) : gb18 ≠ gb4)); clear HO3; clear HO7; clear HO12; clear HO15; clear BK4; clear HB; have HO3 := n0_; have HO7 := n1_; have HO12 := n2_; have HO15 := n3_; have BK4 := n4_; have HB := n5_; have BK18 := n6_; have GW18 := n7_; have GE18 := n8_; have NB4_18 := n9_; have NB18_4 := n10_; clear n0_ n1_ n2_ n3_ n4_ n5_ n6_ n7_ n8_ n9_ n10_; clear hb hbox hg; have hnb24 := NB18_4.out; have hnc24 := NB4_18.out; have hcz25_0 : w23.cell? ⟨gb18, 0, none⟩ = some (.int .i64 0) := (blk_cell BK18.out 0).trans rfl; have hcz25_1 : w23.cell? ⟨gb18, 1, none⟩ = some (.int .i64 0) := (blk_cell BK18.out 1).trans rfl; have hcz25_2 : w23.cell? ⟨gb18, 2, none⟩ = some (.slice none 0 0) := (blk_cell BK18.out 2).trans rfl; have hcz25_3 : w23.cell? ⟨gb18, 3, none⟩ = some (.slice none 0 0) := (blk_cell BK18.out 3).trans rfl; have hfz25_0 := blk_frozen BK18.out 0; have hfz25_1 := blk_frozen BK18.out 1; have hfz25_2 := blk_frozen BK18.out 2; have hfz25_3 := blk_frozen BK18.out 3; obtain ⟨Ao26, co26, eo26⟩ := Kd.R_slice HO12.out; subst eo26; obtain ⟨Ao27, co27, eo27⟩ := Kd.R_slice HO15.out; subst eo27) | ((with_reducible refine gate_callee (f := 63) rfl ?_); refine goesM_ (some 21) Try.func63 #[.slice none 0 0] ?_; (refine (txn_Take.calls k _ _ ([] : List Int) t19 t20 t21 t24 t27 false _ ?side1 ?side2 A3.out).mono ?_); (case side1 => exact Kd.C_nil _ _); (case side2 => exact Nat.le_refl _); rintro e w28 ⟨v22, v25, rfl, ho0, ho1, hb⟩; refine ⟨_, rfl, ?_⟩; have n0_ := Aside0.mk (Kd.R_elder' (by (with_reducible repeat (first | apply ra_ | apply rn_ | apply rd_)); exact (Kd.R_mono (Kd.R_far (p := ⟨gb18, 3, none⟩) (Kd.R_far (p := ⟨gb18, 2, none⟩) (Kd.R_far (p := ⟨gb18, 1, none⟩) (Kd.R_far (p := ⟨gb18, 0, none⟩) (Kd.R_types HO3.out BK18.out (by decide)) (fun _ hk => hk.2) (.int .i64 t8)) (fun _ hk => hk.2) (.int .i64 t9)) (fun _ hk => hk.2) (.slice Ao26 t10.length co26)) (fun _ hk => hk.2) (.slice Ao27 t13.length co27)) (fun _ h_ => h_.1))) (Kd.R_base ho1) hb); have n1_ := Aside0.mk (Kd.R_below (by (with_reducible repeat (first | apply ra_ | apply rn_ | apply rd_)); exact (Kd.R_mono (Kd.R_far (p := ⟨gb18, 3, none⟩) (Kd.R_far (p := ⟨gb18, 2, none⟩) (Kd.R_far (p := ⟨gb18, 1, none⟩) (Kd.R_far (p := ⟨gb18, 0, none⟩) (Kd.R_types HO7.out BK18.out (by decide)) (fun _ hk => hk.2) (.int .i64 t8)) (fun _ hk => hk.2) (.int .i64 t9)) (fun _ hk => hk.2) (.slice Ao26 t10.length co26)) (fun _ hk => hk.2) (.slice Ao27 t13.length co27)) (fun _ h_ => h_.1))) hb); have n2_ := Aside0.mk (Kd.R_elder' (by (with_reducible repeat (first | apply ra_ | apply rn_ | apply rd_)); exact (Kd.R_mono (Kd.R_far (p := ⟨gb18, 3, none⟩) (Kd.R_far (p := ⟨gb18, 2, none⟩) (Kd.R_far (p := ⟨gb18, 1, none⟩) (Kd.R_far (p := ⟨gb18, 0, none⟩) (Kd.R_types HO12.out BK18.out (by decide)) (fun _ hk => hk.2) (.int .i64 t8)) (fun _ hk => hk.2) (.int .i64 t9)) (fun _ hk => hk.2) (.slice Ao26 t10.length co26)) (fun _ hk => hk.2) (.slice Ao27 t13.length co27)) (fun _ h_ => h_.1))) (Kd.R_base ho0) hb); have n3_ := Aside0.mk (Kd.R_elder' (by (with_reducible repeat (first | apply ra_ | apply rn_ | apply rd_)); exact (Kd.R_mono (Kd.R_far (p := ⟨gb18, 3, none⟩) (Kd.R_far (p := ⟨gb18, 2, none⟩) (Kd.R_far (p := ⟨gb18, 1, none⟩) (Kd.R_far (p := ⟨gb18, 0, none⟩) (Kd.R_types HO15.out BK18.out (by decide)) (fun _ hk => hk.2) (.int .i64 t8)) (fun _ hk => hk.2) (.int .i64 t9)) (fun _ hk => hk.2) (.slice Ao26 t10.length co26)) (fun _ hk => hk.2) (.slice Ao27 t13.length co27)) (fun _ h_ => h_.1))) (Kd.R_base ho1) hb); have n4_ := Aside0.mk (Kd.R_lower (Kd.R_new' ho0 (Kd.R_lt (by (with_reducible repeat (first | apply ra_ | apply rn_ | apply rd_)); exact (Kd.R_mono (Kd.R_far (p := ⟨gb18, 3, none⟩) (Kd.R_far (p := ⟨gb18, 2, none⟩) (Kd.R_far (p := ⟨gb18, 1, none⟩) (Kd.R_far (p := ⟨gb18, 0, none⟩) (Kd.R_types HO12.out BK18.out (by decide)) (fun _ hk => hk.2) (.int .i64 t8)) (fun _ hk => hk.2) (.int .i64 t9)) (fun _ hk => hk.2) (.slice Ao26 t10.length co26)) (fun _ hk => hk.2) (.slice Ao27 t13.length co27)) (fun _ h_ => h_.1))))) (below_size (by repeat (with_reducible first | exact HB.out | apply ba_ | apply bn_ | apply bd_ | refine bs_ ?_ GE4.out | refine bs_ ?_ GE18.out)))); have n5_ := Aside0.mk (Kd.R_lower (Kd.R_new' (Kd.R_new' ho1 (Kd.R_lt (by (with_reducible repeat (first | apply ra_ | apply rn_ | apply rd_)); exact (Kd.R_mono (Kd.R_far (p := ⟨gb18, 3, none⟩) (Kd.R_far (p := ⟨gb18, 2, none⟩) (Kd.R_far (p := ⟨gb18, 1, none⟩) (Kd.R_far (p := ⟨gb18, 0, none⟩) (Kd.R_types HO3.out BK18.out (by decide)) (fun _ hk => hk.2) (.int .i64 t8)) (fun _ hk => hk.2) (.int .i64 t9)) (fun _ hk => hk.2) (.slice Ao26 t10.length co26)) (fun _ hk => hk.2) (.slice Ao27 t13.length co27)) (fun _ h_ => h_.1))))) (Kd.R_lt (by (with_reducible repeat (first | apply ra_ | apply rn_ | apply rd_)); exact (Kd.R_mono (Kd.R_far (p := ⟨gb18, 3, none⟩) (Kd.R_far (p := ⟨gb18, 2, none⟩) (Kd.R_far (p := ⟨gb18, 1, none⟩) (Kd.R_far (p := ⟨gb18, 0, none⟩) (Kd.R_types HO15.out BK18.out (by decide)) (fun _ hk => hk.2) (.int .i64 t8)) (fun _ hk => hk.2) (.int .i64 t9)) (fun _ hk => hk.2) (.slice Ao26 t10.length co26)) (fun _ hk => hk.2) (.slice Ao27 t13.length co27)) (fun _ h_ => h_.1))))) (below_size (by repeat (with_reducible first | exact HB.out | apply ba_ | apply bn_ | apply bd_ | refine bs_ ?_ GE4.out | refine bs_ ?_ GE18.out)))); have n6_ := Aside0.mk (blk_below (g := gb4) (o := .cells #[.int .i64 1, .int .i64 1, .slice none 0 0, .slice Ao17 y1.length co17] 30 (0, 0)) (by (with_reducible repeat (first | refine kn_ ?_ _ | refine kd_ ?_ | refine ka_ ?_ _)); refine blk_far ?_ NB4_18.out _; (with_reducible repeat (first | refine kn_ ?_ _ | refine kd_ ?_ | refine ka_ ?_ _)); refine blk_far ?_ NB4_18.out _; (with_reducible repeat (first | refine kn_ ?_ _ | refine kd_ ?_ | refine ka_ ?_ _)); refine blk_far ?_ NB4_18.out _; (with_reducible repeat (first | refine kn_ ?_ _ | refine kd_ ?_ | refine ka_ ?_ _)); refine blk_far ?_ NB4_18.out _; (with_reducible repeat (first | refine kn_ ?_ _ | refine kd_ ?_ | refine ka_ ?_ _)); exact BK4.out) hb); have n7_ := Aside0.mk (blk_below (g := gb18) (o := .cells #[.int .i64 t8, .int .i64 t9, .slice Ao26 t10.length co26, .slice Ao27 t13.length co27] 30 (0, 0)) (by (with_reducible repeat (first | refine kn_ ?_ _ | refine kd_ ?_ | refine ka_ ?_ _)); refine blk_put (cs := #[.int .i64 t8, .int .i64 t9, .slice Ao26 t10.length co26, .slice none 0 0]) ?_ 3 _ rfl; (with_reducible repeat (first | refine kn_ ?_ _ | refine kd_ ?_ | refine ka_ ?_ _)); refine blk_put (cs := #[.int .i64 t8, .int .i64 t9, .slice none 0 0, .slice none 0 0]) ?_ 2 _ rfl; (with_reducible repeat (first | refine kn_ ?_ _ | refine kd_ ?_ | refine ka_ ?_ _)); refine blk_put (cs := #[.int .i64 t8, .int .i64 0, .slice none 0 0, .slice none 0 0]) ?_ 1 _ rfl; (with_reducible repeat (first | refine kn_ ?_ _ | refine kd_ ?_ | refine ka_ ?_ _)); refine blk_put (cs := #[.int .i64 0, .int .i64 0, .slice none 0 0, .slice none 0 0]) ?_ 0 _ rfl; (with_reducible repeat (first | refine kn_ ?_ _ | refine kd_ ?_ | refine ka_ ?_ _)); exact BK18.out) hb); have n8_ := Aside0.mk (below_step (by repeat (with_reducible first | exact HB.out | apply ba_ | apply bn_ | apply bd_ | refine bs_ ?_ GE4.out | refine bs_ ?_ GE18.out)) hb); clear HO3; clear HO7; clear HO12; clear HO15; clear BK4; clear BK18; clear HB; have HO3 := n0_; have HO7 := n1_; have HO12 := n2_; have HO15 := n3_; have HO23 := n4_; have HO26 := n5_; have BK4 := n6_; have BK18 := n7_; have HB := n8_; clear n0_ n1_ n2_ n3_ n4_ n5_ n6_ n7_ n8_; clear hb ho0 ho1) | ((with_reducible refine gate_dst (N := 6) rfl ?_); (try (refine gate_guard (by rfl) ?_; dsimp only)); refine box_event ?hg (N := 6) ?hd (cs := #[.int .i64 0, .int .i64 0, .slice none 0 0, .slice none 0 0]) (t := 30) ?hr ?_; (case hd => rfl); (case hg => rfl); (case hr => first | (go_simp; done) | (go_simp; rfl)); intro gb29 hg w29 hbox hb; have n0_ := Aside0.mk (Kd.R_below (by (with_reducible repeat (first | apply ra_ | apply rn_ | apply rd_)); exact HO3.out) hb); have n1_ := Aside0.mk (Kd.R_below (by (with_reducible repeat (first | apply ra_ | apply rn_ | apply rd_)); exact HO7.out) hb); have n2_ := Aside0.mk (Kd.R_below (by (with_reducible repeat (first | apply ra_ | apply rn_ | apply rd_)); exact HO12.out) hb); have n3_ := Aside0.mk (Kd.R_below (by (with_reducible repeat (first | apply ra_ | apply rn_ | apply rd_)); exact HO15.out) hb); have n4_ := Aside0.mk (Kd.R_below (by (with_reducible repeat (first | apply ra_ | apply rn_ | apply rd_)); exact HO23.out) hb); have n5_ := Aside0.mk (Kd.R_below (by (with_reducible repeat (first | apply ra_ | apply rn_ | apply rd_)); exact HO26.out) hb); have n6_ := Aside0.mk (blk_below (g := gb4) (o := .cells #[.int .i64 1, .int .i64 1, .slice none 0 0, .slice Ao17 y1.length co17] 30 (0, 0)) (by (with_reducible repeat (first | refine kn_ ?_ _ | refine kd_ ?_ | refine ka_ ?_ _)); exact BK4.out) hb); have n7_ := Aside0.mk (blk_below (g := gb18) (o := .cells #[.int .i64 t8, .int .i64 t9, .slice Ao26 t10.length co26, .slice Ao27 t13.length co27] 30 (0, 0)) (by (with_reducible repeat (first | refine kn_ ?_ _ | refine kd_ ?_ | refine ka_ ?_ _)); exact BK18.out) hb); have n8_ := Aside0.mk (below_step (by repeat (with_reducible first | exact HB.out | apply ba_ | apply bn_ | apply bd_ | refine bs_ ?_ GE4.out | refine bs_ ?_ GE18.out)) hb); have n9_ := Aside0.mk (hbox); have n10_ := Aside0.mk ((by rw [hg]; exact (below_size (by repeat (with_reducible first | exact HB.out | apply ba_ | apply bn_ | apply bd_ | refine bs_ ?_ GE4.out | refine bs_ ?_ GE18.out))) : w.heap.size ≤ gb29)); have n11_ := Aside0.mk ((by rw [hg]; exact (below_size (by repeat (with_reducible first | exact HB.out | apply ba_ | apply bn_ | apply bd_ | refine bs_ ?_ GE4.out | refine bs_ ?_ GE18.out))) : w.heap.size ≤ gb29)); have n12_ := Aside0.mk ((by rw [hg]; exact Nat.ne_of_lt (blk_lt (g := gb4) (o := .cells #[.int .i64 1, .int .i64 1, .slice none 0 0, .slice Ao17 y1.length co17] 30 (0, 0)) (by (with_reducible repeat (first | refine kn_ ?_ _ | refine kd_ ?_ | refine ka_ ?_ _)); exact BK4.out)) : gb4 ≠ gb29)); have n13_ := Aside0.mk ((by rw [hg]; exact Nat.ne_of_gt (blk_lt (g := gb4) (o := .cells #[.int .i64 1, .int .i64 1, .slice none 0 0, .slice Ao17 y1.length co17] 30 (0, 0)) (by (with_reducible repeat (first | refine kn_ ?_ _ | refine kd_ ?_ | refine ka_ ?_ _)); exact BK4.out)) : gb29 ≠ gb4)); have n14_ := Aside0.mk ((by rw [hg]; exact Nat.ne_of_lt (blk_lt (g := gb18) (o := .cells #[.int .i64 t8, .int .i64 t9, .slice Ao26 t10.length co26, .slice Ao27 t13.length co27] 30 (0, 0)) (by (with_reducible repeat (first | refine kn_ ?_ _ | refine kd_ ?_ | refine ka_ ?_ _)); exact BK18.out)) : gb18 ≠ gb29)); have n15_ := Aside0.mk ((by rw [hg]; exact Nat.ne_of_gt (blk_lt (g := gb18) (o := .cells #[.int .i64 t8, .int .i64 t9, .slice Ao26 t10.length co26, .slice Ao27 t13.length co27] 30 (0, 0)) (by (with_reducible repeat (first | refine kn_ ?_ _ | refine kd_ ?_ | refine ka_ ?_ _)); exact BK18.out)) : gb29 ≠ gb18)); clear HO3; clear HO7; clear HO12; clear HO15; clear HO23; clear HO26; clear BK4; clear BK18; clear HB; have HO3 := n0_; have HO7 := n1_; have HO12 := n2_; have HO15 := n3_; have HO23 := n4_; have HO26 := n5_; have BK4 := n6_; have BK18 := n7_; have HB := n8_; have BK29 := n9_; have GW29 := n10_; have GE29 := n11_; have NB4_29 := n12_; have NB29_4 := n13_; have NB18_29 := n14_; have NB29_18 := n15_; clear n0_ n1_ n2_ n3_ n4_ n5_ n6_ n7_ n8_ n9_ n10_ n11_ n12_ n13_ n14_ n15_; clear hb hbox hg; have hnb30 := NB29_4.out; have hnc30 := NB4_29.out; have hnb31 := NB29_18.out; have hnc31 := NB18_29.out; have hcz32_0 : w29.cell? ⟨gb29, 0, none⟩ = some (.int .i64 0) := (blk_cell BK29.out 0).trans rfl; have hcz32_1 : w29.cell? ⟨gb29, 1, none⟩ = some (.int .i64 0) := (blk_cell BK29.out 1).trans rfl; have hcz32_2 : w29.cell? ⟨gb29, 2, none⟩ = some (.slice none 0 0) := (blk_cell BK29.out 2).trans rfl; have hcz32_3 : w29.cell? ⟨gb29, 3, none⟩ = some (.slice none 0 0) := (blk_cell BK29.out 3).trans rfl; have hfz32_0 := blk_frozen BK29.out 0; have hfz32_1 := blk_frozen BK29.out 1; have hfz32_2 := blk_frozen BK29.out 2; have hfz32_3 := blk_frozen BK29.out 3; obtain ⟨Ao33, co33, eo33⟩ := Kd.R_slice HO23.out; subst eo33; obtain ⟨Ao34, co34, eo34⟩ := Kd.R_slice HO26.out; subst eo34; have hcz35_0 : w29.cell? ⟨gb4, 0, none⟩ = some (.int .i64 1) := (blk_cell BK4.out 0).trans rfl; have hcz35_1 : w29.cell? ⟨gb4, 1, none⟩ = some (.int .i64 1) := (blk_cell BK4.out 1).trans rfl; have hcz35_2 : w29.cell? ⟨gb4, 2, none⟩ = some (.slice none 0 0) := (blk_cell BK4.out 2).trans rfl; have hcz35_3 : w29.cell? ⟨gb4, 3, none⟩ = some (.slice Ao17 y1.length co17) := (blk_cell BK4.out 3).trans rfl; have hfz35_0 := blk_frozen BK4.out 0; have hfz35_1 := blk_frozen BK4.out 1; have hfz35_2 := blk_frozen BK4.out 2; have hfz35_3 := blk_frozen BK4.out 3) | ((with_reducible refine gate_callee (f := 18) rfl ?_); refine goesM_ (some 26) Try.func18 #[.agg #[.int .i64 1, .int .i64 1, .slice none 0 0, .slice Ao17 y1.length co17]] ?_; (refine (txn_May.calls k 1 1 _ _ ([] : List (S24)) _ _ y1 true _ ?side1 ?side2 ?side3 ?side4 A4.out).mono ?_); (case side1 => exact Kd.C_nil _ _); (case side2 => exact Nat.le_refl _); (case side3 => refine (Kd.R_reads' (e := 27) (base := w.heap.size) (ok := fun k_ => ((True ∧ some k_ ≠ (.slice Ao27 t13.length co27 : Value).ownBlock) ∧ some k_ ≠ (.slice Ao34 t24.length co34 : Value).ownBlock)) (n := y1.length) (c := co17) ?_).2.2; exact (by (with_reducible repeat (first | apply ra_ | apply rn_ | apply rd_)); exact (Kd.R_mono (Kd.R_far (p := ⟨gb29, 3, none⟩) (Kd.R_far (p := ⟨gb29, 2, none⟩) (Kd.R_far (p := ⟨gb29, 1, none⟩) (Kd.R_far (p := ⟨gb29, 0, none⟩) (Kd.R_types HO3.out BK29.out (by decide)) (fun _ hk => hk.2) (.int .i64 t19)) (fun _ hk => hk.2) (.int .i64 t20)) (fun _ hk => hk.2) (.slice Ao33 t21.length co33)) (fun _ hk => hk.2) (.slice Ao34 t24.length co34)) (fun _ h_ => h_.1)))); (case side4 => exact (Kd.R_reads' HO3.out).2.1); rintro e w36 ⟨rfl, hb⟩; refine ⟨_, rfl, ?_⟩; have n0_ := Aside0.mk (Kd.R_below (by (with_reducible repeat (first | apply ra_ | apply rn_ | apply rd_)); exact (Kd.R_mono (Kd.R_far (p := ⟨gb29, 3, none⟩) (Kd.R_far (p := ⟨gb29, 2, none⟩) (Kd.R_far (p := ⟨gb29, 1, none⟩) (Kd.R_far (p := ⟨gb29, 0, none⟩) (Kd.R_types HO3.out BK29.out (by decide)) (fun _ hk => hk.2) (.int .i64 t19)) (fun _ hk => hk.2) (.int .i64 t20)) (fun _ hk => hk.2) (.slice Ao33 t21.length co33)) (fun _ hk => hk.2) (.slice Ao34 t24.length co34)) (fun _ h_ => h_.1))) hb); have n1_ := Aside0.mk (Kd.R_below (by (with_reducible repeat (first | apply ra_ | apply rn_ | apply rd_)); exact (Kd.R_mono (Kd.R_far (p := ⟨gb29, 3, none⟩) (Kd.R_far (p := ⟨gb29, 2, none⟩) (Kd.R_far (p := ⟨gb29, 1, none⟩) (Kd.R_far (p := ⟨gb29, 0, none⟩) (Kd.R_types HO7.out BK29.out (by decide)) (fun _ hk => hk.2) (.int .i64 t19)) (fun _ hk => hk.2) (.int .i64 t20)) (fun _ hk => hk.2) (.slice Ao33 t21.length co33)) (fun _ hk => hk.2) (.slice Ao34 t24.length co34)) (fun _ h_ => h_.1))) hb); have n2_ := Aside0.mk (Kd.R_below (by (with_reducible repeat (first | apply ra_ | apply rn_ | apply rd_)); exact (Kd.R_mono (Kd.R_far (p := ⟨gb29, 3, none⟩) (Kd.R_far (p := ⟨gb29, 2, none⟩) (Kd.R_far (p := ⟨gb29, 1, none⟩) (Kd.R_far (p := ⟨gb29, 0, none⟩) (Kd.R_types HO12.out BK29.out (by decide)) (fun _ hk => hk.2) (.int .i64 t19)) (fun _ hk => hk.2) (.int .i64 t20)) (fun _ hk => hk.2) (.slice Ao33 t21.length co33)) (fun _ hk => hk.2) (.slice Ao34 t24.length co34)) (fun _ h_ => h_.1))) hb); have n3_ := Aside0.mk (Kd.R_below (by (with_reducible repeat (first | apply ra_ | apply rn_ | apply rd_)); exact (Kd.R_mono (Kd.R_far (p := ⟨gb29, 3, none⟩) (Kd.R_far (p := ⟨gb29, 2, none⟩) (Kd.R_far (p := ⟨gb29, 1, none⟩) (Kd.R_far (p := ⟨gb29, 0, none⟩) (Kd.R_types HO15.out BK29.out (by decide)) (fun _ hk => hk.2) (.int .i64 t19)) (fun _ hk => hk.2) (.int .i64 t20)) (fun _ hk => hk.2) (.slice Ao33 t21.length co33)) (fun _ hk => hk.2) (.slice Ao34 t24.length co34)) (fun _ h_ => h_.1))) hb); have n4_ := Aside0.mk (Kd.R_below (by (with_reducible repeat (first | apply ra_ | apply rn_ | apply rd_)); exact (Kd.R_mono (Kd.R_far (p := ⟨gb29, 3, none⟩) (Kd.R_far (p := ⟨gb29, 2, none⟩) (Kd.R_far (p := ⟨gb29, 1, none⟩) (Kd.R_far (p := ⟨gb29, 0, none⟩) (Kd.R_types HO23.out BK29.out (by decide)) (fun _ hk => hk.2) (.int .i64 t19)) (fun _ hk => hk.2) (.int .i64 t20)) (fun _ hk => hk.2) (.slice Ao33 t21.length co33)) (fun _ hk => hk.2) (.slice Ao34 t24.length co34)) (fun _ h_ => h_.1))) hb); have n5_ := Aside0.mk (Kd.R_below (by (with_reducible repeat (first | apply ra_ | apply rn_ | apply rd_)); exact (Kd.R_mono (Kd.R_far (p := ⟨gb29, 3, none⟩) (Kd.R_far (p := ⟨gb29, 2, none⟩) (Kd.R_far (p := ⟨gb29, 1, none⟩) (Kd.R_far (p := ⟨gb29, 0, none⟩) (Kd.R_types HO26.out BK29.out (by decide)) (fun _ hk => hk.2) (.int .i64 t19)) (fun _ hk => hk.2) (.int .i64 t20)) (fun _ hk => hk.2) (.slice Ao33 t21.length co33)) (fun _ hk => hk.2) (.slice Ao34 t24.length co34)) (fun _ h_ => h_.1))) hb); have n6_ := Aside0.mk (blk_below (g := gb4) (o := .cells #[.int .i64 1, .int .i64 1, .slice none 0 0, .slice Ao17 y1.length co17] 30 (0, 0)) (by (with_reducible repeat (first | refine kn_ ?_ _ | refine kd_ ?_ | refine ka_ ?_ _)); refine blk_far ?_ NB4_29.out _; (with_reducible repeat (first | refine kn_ ?_ _ | refine kd_ ?_ | refine ka_ ?_ _)); refine blk_far ?_ NB4_29.out _; (with_reducible repeat (first | refine kn_ ?_ _ | refine kd_ ?_ | refine ka_ ?_ _)); refine blk_far ?_ NB4_29.out _; (with_reducible repeat (first | refine kn_ ?_ _ | refine kd_ ?_ | refine ka_ ?_ _)); refine blk_far ?_ NB4_29.out _; (with_reducible repeat (first | refine kn_ ?_ _ | refine kd_ ?_ | refine ka_ ?_ _)); exact BK4.out) hb); have n7_ := Aside0.mk (blk_below (g := gb18) (o := .cells #[.int .i64 t8, .int .i64 t9, .slice Ao26 t10.length co26, .slice Ao27 t13.length co27] 30 (0, 0)) (by (with_reducible repeat (first | refine kn_ ?_ _ | refine kd_ ?_ | refine ka_ ?_ _)); refine blk_far ?_ NB18_29.out _; (with_reducible repeat (first | refine kn_ ?_ _ | refine kd_ ?_ | refine ka_ ?_ _)); refine blk_far ?_ NB18_29.out _; (with_reducible repeat (first | refine kn_ ?_ _ | refine kd_ ?_ | refine ka_ ?_ _)); refine blk_far ?_ NB18_29.out _; (with_reducible repeat (first | refine kn_ ?_ _ | refine kd_ ?_ | refine ka_ ?_ _)); refine blk_far ?_ NB18_29.out _; (with_reducible repeat (first | refine kn_ ?_ _ | refine kd_ ?_ | refine ka_ ?_ _)); exact BK18.out) hb); have n8_ := Aside0.mk (blk_below (g := gb29) (o := .cells #[.int .i64 t19, .int .i64 t20, .slice Ao33 t21.length co33, .slice Ao34 t24.length co34] 30 (0, 0)) (by (with_reducible repeat (first | refine kn_ ?_ _ | refine kd_ ?_ | refine ka_ ?_ _)); refine blk_put (cs := #[.int .i64 t19, .int .i64 t20, .slice Ao33 t21.length co33, .slice none 0 0]) ?_ 3 _ rfl; (with_reducible repeat (first | refine kn_ ?_ _ | refine kd_ ?_ | refine ka_ ?_ _)); refine blk_put (cs := #[.int .i64 t19, .int .i64 t20, .slice none 0 0, .slice none 0 0]) ?_ 2 _ rfl; (with_reducible repeat (first | refine kn_ ?_ _ | refine kd_ ?_ | refine ka_ ?_ _)); refine blk_put (cs := #[.int .i64 t19, .int .i64 0, .slice none 0 0, .slice none 0 0]) ?_ 1 _ rfl; (with_reducible repeat (first | refine kn_ ?_ _ | refine kd_ ?_ | refine ka_ ?_ _)); refine blk_put (cs := #[.int .i64 0, .int .i64 0, .slice none 0 0, .slice none 0 0]) ?_ 0 _ rfl; (with_reducible repeat (first | refine kn_ ?_ _ | refine kd_ ?_ | refine ka_ ?_ _)); exact BK29.out) hb); have n9_ := Aside0.mk (below_step (by repeat (with_reducible first | exact HB.out | apply ba_ | apply bn_ | apply bd_ | refine bs_ ?_ GE4.out | refine bs_ ?_ GE18.out | refine bs_ ?_ GE29.out)) hb); clear HO3; clear HO7; clear HO12; clear HO15; clear HO23; clear HO26; clear BK4; clear BK18; clear BK29; clear HB; have HO3 := n0_; have HO7 := n1_; have HO12 := n2_; have HO15 := n3_; have HO23 := n4_; have HO26 := n5_; have BK4 := n6_; have BK18 := n7_; have BK29 := n8_; have HB := n9_; clear n0_ n1_ n2_ n3_ n4_ n5_ n6_ n7_ n8_ n9_; clear hb; have hcv37 := own_string (P := Try.prog) Try.underlying33 Try.underlying5 Try.underlying9 (Kd.own_of_R HO7.out); have hcz38_0 : w36.cell? ⟨gb18, 0, none⟩ = some (.int .i64 t8) := (blk_cell BK18.out 0).trans rfl; have hcz38_1 : w36.cell? ⟨gb18, 1, none⟩ = some (.int .i64 t9) := (blk_cell BK18.out 1).trans rfl; have hcz38_2 : w36.cell? ⟨gb18, 2, none⟩ = some (.slice Ao26 t10.length co26) := (blk_cell BK18.out 2).trans rfl; have hcz38_3 : w36.cell? ⟨gb18, 3, none⟩ = some (.slice Ao27 t13.length co27) := (blk_cell BK18.out 3).trans rfl; have hfz38_0 := blk_frozen BK18.out 0; have hfz38_1 := blk_frozen BK18.out 1; have hfz38_2 := blk_frozen BK18.out 2; have hfz38_3 := blk_frozen BK18.out 3; have hcz39_0 : w36.cell? ⟨gb4, 0, none⟩ = some (.int .i64 1) := (blk_cell BK4.out 0).trans rfl; have hcz39_1 : w36.cell? ⟨gb4, 1, none⟩ = some (.int .i64 1) := (blk_cell BK4.out 1).trans rfl; have hcz39_2 : w36.cell? ⟨gb4, 2, none⟩ = some (.slice none 0 0) := (blk_cell BK4.out 2).trans rfl; have hcz39_3 : w36.cell? ⟨gb4, 3, none⟩ = some (.slice Ao17 y1.length co17) := (blk_cell BK4.out 3).trans rfl; have hfz39_0 := blk_frozen BK4.out 0; have hfz39_1 := blk_frozen BK4.out 1; have hfz39_2 := blk_frozen BK4.out 2; have hfz39_3 := blk_frozen BK4.out 3) | (go_at_call 20; (refine (txn_Same.calls k t8 t9 _ _ t10 _ _ t13 1 1 _ _ ([] : List (S24)) _ _ y1 true _ ?side1 ?side2 ?side3 ?side4 ?side5 ?side6 ?side7 ?side8 A9.out).mono ?_); (case side1 => repeat (first | exact (Kd.R_reads' HO12.out).2.2 | (with_reducible refine ca_ ?_ _) | (with_reducible refine cn_ ?_ _) | (with_reducible refine cd_ ?_))); (case side2 => exact (Kd.R_reads' HO12.out).2.1); (case side3 => repeat (first | exact (Kd.R_reads' HO15.out).2.2 | (with_reducible refine ca_ ?_ _) | (with_reducible refine cn_ ?_ _) | (with_reducible refine cd_ ?_))); (case side4 => exact (Kd.R_reads' HO15.out).2.1); (case side5 => exact Kd.C_nil _ _); (case side6 => exact Nat.le_refl _); (case side7 => repeat (first | exact (Kd.R_reads' HO3.out).2.2 | (with_reducible refine ca_ ?_ _) | (with_reducible refine cn_ ?_ _) | (with_reducible refine cd_ ?_))); (case side8 => exact (Kd.R_reads' HO3.out).2.1); rintro e w40 ⟨rfl, hb⟩; have n0_ := Aside0.mk (Kd.R_below (by (with_reducible repeat (first | apply ra_ | apply rn_ | apply rd_)); exact HO3.out) hb); have n1_ := Aside0.mk (Kd.R_below (by (with_reducible repeat (first | apply ra_ | apply rn_ | apply rd_)); exact HO7.out) hb); have n2_ := Aside0.mk (Kd.R_below (by (with_reducible repeat (first | apply ra_ | apply rn_ | apply rd_)); exact HO12.out) hb); have n3_ := Aside0.mk (Kd.R_below (by (with_reducible repeat (first | apply ra_ | apply rn_ | apply rd_)); exact HO15.out) hb); have n4_ := Aside0.mk (Kd.R_below (by (with_reducible repeat (first | apply ra_ | apply rn_ | apply rd_)); exact HO23.out) hb); have n5_ := Aside0.mk (Kd.R_below (by (with_reducible repeat (first | apply ra_ | apply rn_ | apply rd_)); exact HO26.out) hb); have n6_ := Aside0.mk (blk_below (g := gb4) (o := .cells #[.int .i64 1, .int .i64 1, .slice none 0 0, .slice Ao17 y1.length co17] 30 (0, 0)) (by (with_reducible repeat (first | refine kn_ ?_ _ | refine kd_ ?_ | refine ka_ ?_ _)); exact BK4.out) hb); have n7_ := Aside0.mk (blk_below (g := gb18) (o := .cells #[.int .i64 t8, .int .i64 t9, .slice Ao26 t10.length co26, .slice Ao27 t13.length co27] 30 (0, 0)) (by (with_reducible repeat (first | refine kn_ ?_ _ | refine kd_ ?_ | refine ka_ ?_ _)); exact BK18.out) hb); have n8_ := Aside0.mk (blk_below (g := gb29) (o := .cells #[.int .i64 t19, .int .i64 t20, .slice Ao33 t21.length co33, .slice Ao34 t24.length co34] 30 (0, 0)) (by (with_reducible repeat (first | refine kn_ ?_ _ | refine kd_ ?_ | refine ka_ ?_ _)); exact BK29.out) hb); have n9_ := Aside0.mk (below_step (by repeat (with_reducible first | exact HB.out | apply ba_ | apply bn_ | apply bd_ | refine bs_ ?_ GE4.out | refine bs_ ?_ GE18.out | refine bs_ ?_ GE29.out)) hb); clear HO3; clear HO7; clear HO12; clear HO15; clear HO23; clear HO26; clear BK4; clear BK18; clear BK29; clear HB; have HO3 := n0_; have HO7 := n1_; have HO12 := n2_; have HO15 := n3_; have HO23 := n4_; have HO26 := n5_; have BK4 := n6_; have BK18 := n7_; have BK29 := n8_; have HB := n9_; clear n0_ n1_ n2_ n3_ n4_ n5_ n6_ n7_ n8_ n9_; clear hb; have hcz41_0 : w40.cell? ⟨gb4, 0, none⟩ = some (.int .i64 1) := (blk_cell BK4.out 0).trans rfl; have hcz41_1 : w40.cell? ⟨gb4, 1, none⟩ = some (.int .i64 1) := (blk_cell BK4.out 1).trans rfl; have hcz41_2 : w40.cell? ⟨gb4, 2, none⟩ = some (.slice none 0 0) := (blk_cell BK4.out 2).trans rfl; have hcz41_3 : w40.cell? ⟨gb4, 3, none⟩ = some (.slice Ao17 y1.length co17) := (blk_cell BK4.out 3).trans rfl; have hfz41_0 := blk_frozen BK4.out 0; have hfz41_1 := blk_frozen BK4.out 1; have hfz41_2 := blk_frozen BK4.out 2; have hfz41_3 := blk_frozen BK4.out 3) | (go_at_call 25; (refine (txn_Touches.calls k 1 1 _ _ ([] : List (S24)) _ _ y1 1 3 true _ ?side1 ?side2 ?side3 ?side4 A12.out).mono ?_); (case side1 => exact Kd.C_nil _ _); (case side2 => exact Nat.le_refl _); (case side3 => repeat (first | exact (Kd.R_reads' HO3.out).2.2 | (with_reducible refine ca_ ?_ _) | (with_reducible refine cn_ ?_ _) | (with_reducible refine cd_ ?_))); (case side4 => exact (Kd.R_reads' HO3.out).2.1); rintro e w42 ⟨rfl, hb⟩; have n0_ := Aside0.mk (Kd.R_below (by (with_reducible repeat (first | apply ra_ | apply rn_ | apply rd_)); exact HO3.out) hb); have n1_ := Aside0.mk (Kd.R_below (by (with_reducible repeat (first | apply ra_ | apply rn_ | apply rd_)); exact HO7.out) hb); have n2_ := Aside0.mk (Kd.R_below (by (with_reducible repeat (first | apply ra_ | apply rn_ | apply rd_)); exact HO12.out) hb); have n3_ := Aside0.mk (Kd.R_below (by (with_reducible repeat (first | apply ra_ | apply rn_ | apply rd_)); exact HO15.out) hb); have n4_ := Aside0.mk (Kd.R_below (by (with_reducible repeat (first | apply ra_ | apply rn_ | apply rd_)); exact HO23.out) hb); have n5_ := Aside0.mk (Kd.R_below (by (with_reducible repeat (first | apply ra_ | apply rn_ | apply rd_)); exact HO26.out) hb); have n6_ := Aside0.mk (blk_below (g := gb4) (o := .cells #[.int .i64 1, .int .i64 1, .slice none 0 0, .slice Ao17 y1.length co17] 30 (0, 0)) (by (with_reducible repeat (first | refine kn_ ?_ _ | refine kd_ ?_ | refine ka_ ?_ _)); exact BK4.out) hb); have n7_ := Aside0.mk (blk_below (g := gb18) (o := .cells #[.int .i64 t8, .int .i64 t9, .slice Ao26 t10.length co26, .slice Ao27 t13.length co27] 30 (0, 0)) (by (with_reducible repeat (first | refine kn_ ?_ _ | refine kd_ ?_ | refine ka_ ?_ _)); exact BK18.out) hb); have n8_ := Aside0.mk (blk_below (g := gb29) (o := .cells #[.int .i64 t19, .int .i64 t20, .slice Ao33 t21.length co33, .slice Ao34 t24.length co34] 30 (0, 0)) (by (with_reducible repeat (first | refine kn_ ?_ _ | refine kd_ ?_ | refine ka_ ?_ _)); exact BK29.out) hb); have n9_ := Aside0.mk (below_step (by repeat (with_reducible first | exact HB.out | apply ba_ | apply bn_ | apply bd_ | refine bs_ ?_ GE4.out | refine bs_ ?_ GE18.out | refine bs_ ?_ GE29.out)) hb); clear HO3; clear HO7; clear HO12; clear HO15; clear HO23; clear HO26; clear BK4; clear BK18; clear BK29; clear HB; have HO3 := n0_; have HO7 := n1_; have HO12 := n2_; have HO15 := n3_; have HO23 := n4_; have HO26 := n5_; have BK4 := n6_; have BK18 := n7_; have BK29 := n8_; have HB := n9_; clear n0_ n1_ n2_ n3_ n4_ n5_ n6_ n7_ n8_ n9_; clear hb; have hcz43_0 : w42.cell? ⟨gb4, 0, none⟩ = some (.int .i64 1) := (blk_cell BK4.out 0).trans rfl; have hcz43_1 : w42.cell? ⟨gb4, 1, none⟩ = some (.int .i64 1) := (blk_cell BK4.out 1).trans rfl; have hcz43_2 : w42.cell? ⟨gb4, 2, none⟩ = some (.slice none 0 0) := (blk_cell BK4.out 2).trans rfl; have hcz43_3 : w42.cell? ⟨gb4, 3, none⟩ = some (.slice Ao17 y1.length co17) := (blk_cell BK4.out 3).trans rfl; have hfz43_0 := blk_frozen BK4.out 0; have hfz43_1 := blk_frozen BK4.out 1; have hfz43_2 := blk_frozen BK4.out 2; have hfz43_3 := blk_frozen BK4.out 3) | (go_at_call 24; (refine (txn_Reads.calls k 1 1 _ _ ([] : List (S24)) _ _ y1 3 t33 _ ?side1 ?side2 ?side3 ?side4 A14.out).mono ?_); (case side1 => exact Kd.C_nil _ _); (case side2 => exact Nat.le_refl _); (case side3 => repeat (first | exact (Kd.R_reads' HO3.out).2.2 | (with_reducible refine ca_ ?_ _) | (with_reducible refine cn_ ?_ _) | (with_reducible refine cd_ ?_))); (case side4 => exact (Kd.R_reads' HO3.out).2.1); rintro e w44 ⟨v34, rfl, ho0, hb⟩; have n0_ := Aside0.mk (Kd.R_below (by (with_reducible repeat (first | apply ra_ | apply rn_ | apply rd_)); exact HO3.out) hb); have n1_ := Aside0.mk (Kd.R_below (by (with_reducible repeat (first | apply ra_ | apply rn_ | apply rd_)); exact HO7.out) hb); have n2_ := Aside0.mk (Kd.R_below (by (with_reducible repeat (first | apply ra_ | apply rn_ | apply rd_)); exact HO12.out) hb); have n3_ := Aside0.mk (Kd.R_below (by (with_reducible repeat (first | apply ra_ | apply rn_ | apply rd_)); exact HO15.out) hb); have n4_ := Aside0.mk (Kd.R_below (by (with_reducible repeat (first | apply ra_ | apply rn_ | apply rd_)); exact HO23.out) hb); have n5_ := Aside0.mk (Kd.R_below (by (with_reducible repeat (first | apply ra_ | apply rn_ | apply rd_)); exact HO26.out) hb); have n6_ := Aside0.mk (Kd.R_lower ho0 (below_size (by repeat (with_reducible first | exact HB.out | apply ba_ | apply bn_ | apply bd_ | refine bs_ ?_ GE4.out | refine bs_ ?_ GE18.out | refine bs_ ?_ GE29.out)))); have n7_ := Aside0.mk (blk_below (g := gb4) (o := .cells #[.int .i64 1, .int .i64 1, .slice none 0 0, .slice Ao17 y1.length co17] 30 (0, 0)) (by (with_reducible repeat (first | refine kn_ ?_ _ | refine kd_ ?_ | refine ka_ ?_ _)); exact BK4.out) hb); have n8_ := Aside0.mk (blk_below (g := gb18) (o := .cells #[.int .i64 t8, .int .i64 t9, .slice Ao26 t10.length co26, .slice Ao27 t13.length co27] 30 (0, 0)) (by (with_reducible repeat (first | refine kn_ ?_ _ | refine kd_ ?_ | refine ka_ ?_ _)); exact BK18.out) hb); have n9_ := Aside0.mk (blk_below (g := gb29) (o := .cells #[.int .i64 t19, .int .i64 t20, .slice Ao33 t21.length co33, .slice Ao34 t24.length co34] 30 (0, 0)) (by (with_reducible repeat (first | refine kn_ ?_ _ | refine kd_ ?_ | refine ka_ ?_ _)); exact BK29.out) hb); have n10_ := Aside0.mk (below_step (by repeat (with_reducible first | exact HB.out | apply ba_ | apply bn_ | apply bd_ | refine bs_ ?_ GE4.out | refine bs_ ?_ GE18.out | refine bs_ ?_ GE29.out)) hb); clear HO3; clear HO7; clear HO12; clear HO15; clear HO23; clear HO26; clear BK4; clear BK18; clear BK29; clear HB; have HO3 := n0_; have HO7 := n1_; have HO12 := n2_; have HO15 := n3_; have HO23 := n4_; have HO26 := n5_; have HO35 := n6_; have BK4 := n7_; have BK18 := n8_; have BK29 := n9_; have HB := n10_; clear n0_ n1_ n2_ n3_ n4_ n5_ n6_ n7_ n8_ n9_ n10_; clear hb ho0; obtain ⟨Ao45, co45, eo45⟩ := Kd.R_slice HO35.out; subst eo45))
        go_ret
        exact ⟨by first | rfl | (simp [errW_none, errW_some] <;> rfl) | (simp [*, errW_none, errW_some] <;> rfl), by repeat (with_reducible first | exact HB.out | apply ba_ | apply bn_ | apply bd_ | refine bs_ ?_ GE4.out | refine bs_ ?_ GE18.out | refine bs_ ?_ GE29.out)⟩
       ·replace c13 := Bool.eq_false_iff.mpr c13
        subst c13
        have H1 : (none) = some r := by rw [if_neg (show ¬ (false = true) by decide)] at H; exact H
        clear H
        have H := H1
        clear H1
        exact absurd H (by simp)
     ·replace c10 := Bool.eq_false_iff.mpr c10
      subst c10
      have H1 : (none) = some r := by rw [if_neg (show ¬ (false = true) by decide)] at H; exact H
      clear H
      have H := H1
      clear H1
      exact absurd H (by simp)
    ·rw [if_neg c8] at H
     exact absurd H (by simp)
   ·replace c7 := Bool.eq_false_iff.mpr c7
    subst c7
    have H1 : (none) = some r := by rw [if_neg (show ¬ (false = true) by decide)] at H; exact H
    clear H
    have H := H1
    clear H1
    exact absurd H (by simp)
  ·rw [if_neg c6] at H
   exact absurd H (by simp)
 ·replace c5 := Bool.eq_false_iff.mpr c5
  subst c5
  have H1 : (none) = some r := by rw [if_neg (show ¬ (false = true) by decide)] at H; exact H
  clear H
  have H := H1
  clear H1
  exact absurd H (by simp)
end Go.Proofs.Ytnlfhbohcgjcbaa.PA
namespace Go.Proofs.Ytnlfhbohcgjcbaa.PA
open Go.RowKit Go.Proofs.YtnlfhbohcgjcbaaW.PrintWords Go.Proofs.YtnlfhbohcgjcbaaW.PrintLast Go.Proofs.YtnlfhbohcgjcbaaW.PrintMore
attribute [local go_sem] max2_int min2_int max_two min_two max_three min_three max_four min_four
set_option linter.unusedVariables false
set_option linter.unusedSimpArgs false
set_option maxHeartbeats 4000000 in
set_option maxRecDepth 100000 in
theorem diwanplay_Picks_Txn.calls (k : Nat) (g : Nat) (s0_0 : List Int) (s0_1 : Int) (a1 : Int) (r1 : Int) (r2 : Int) (r3 : List (S24)) (r4 : List (S27)) (r5 : Int) (w0 w : World) (hI : IsS128 w0 w g s0_0 s0_1) (hB : Below w0.heap.size w0 w) (h : diwanplay_Picks_Txn.f k s0_0 s0_1 a1 = some (r1, r2, r3, r4, r5)) :
  Calls Try.prog 22 #[.pointer (some ⟨g, 0, none⟩), .int .i64 a1] w fun e w' => ∃ v2_ v3_ : Value, e = .returned (.agg #[.int .i64 r1, .int .i64 r2, v2_, v3_]) ∧ Kd.R k24 24 w' w.heap.size (fun _ => True) v2_ r3 ∧ Kd.R k27 27 w' w.heap.size (fun _ => True) v3_ r4 ∧ IsS128 w0 w' g s0_0 r5 ∧ Below w0.heap.size w0 w' ∧ KeepBut w w' g none := by
 unfold diwanplay_Picks_Txn.f at h
 obtain ⟨⟨a, p1⟩, h1, h⟩ := Option.bind_eq_some_iff.1 h
 obtain ⟨⟨b, p2⟩, h2, h⟩ := Option.bind_eq_some_iff.1 h
 obtain ⟨⟨ks, p3⟩, h3, h⟩ := Option.bind_eq_some_iff.1 h
 obtain ⟨⟨rs, p4⟩, h4, h⟩ := Option.bind_eq_some_iff.1 h
 obtain ⟨⟨kw, p5⟩, h5, h⟩ := Option.bind_eq_some_iff.1 h
 obtain ⟨⟨ws, p6⟩, h6, h⟩ := Option.bind_eq_some_iff.1 h
 simp only [Option.some.injEq, Prod.mk.injEq] at h
 obtain ⟨rfl, rfl, rfl, rfl, rfl⟩ := h
 have H1 := Aside0.mk h1
 have H2 := Aside0.mk h2
 have H3 := Aside0.mk h3
 have H4 := Aside0.mk h4
 have H5 := Aside0.mk h5
 have H6 := Aside0.mk h6
 have HI := Aside0.mk hI
 have HB := Aside0.mk hB
 have hgw := hI.lt
 have HGW := Aside0.mk hgw
 have HSZ := Aside0.mk hB.size
 clear h1 h2 h3 h4 h5 h6 hI hB hgw
 repeat clear h
 go_enter Try.func22, Try.ntmps22
 go_wp2_with fail
 refine (diwanplay_Picks_Num.calls g s0_0 s0_1 3 a p1 w0 (w.alloc (.cells #[.int .i64 0, .int .i64 0, .slice none 0 0, .slice none 0 0] 30)) (HI.out.alloc _) (below_alloc HB.out _) H1.out).mono ?_
 rintro e w1 ⟨rfl, hi1, hb1, hk1⟩
 have HI1 := Aside0.mk hi1
 have HB1 := Aside0.mk hb1
 have HK1 := Aside0.mk hk1
 clear hi1 hb1 hk1
 go_wp2_with fail
 refine (diwanplay_Picks_Num.calls g s0_0 p1 6 b p2 w0 w1 HI1.out HB1.out H2.out).mono ?_
 rintro e w2 ⟨rfl, hi2, hb2, hk2⟩
 have HG1 : w1.heap[w.heap.size]? = some (.cells #[.int .i64 0, .int .i64 0, .slice none 0 0, .slice none 0 0] 30 (0, 0)) := HK1.out.blk (heap_alloc_new w _) (by have := HGW.out; omega) (by simp)
 have HG2 := hk2.blk HG1 (by have := HGW.out; omega) (by simp)
 have HK2 : KeepBut w w2 g none := KeepBut.trans (KeepBut.trans (KeepBut.of_below (below_alloc (Below.refl _ _) _) g none) HK1.out (.inl rfl)) hk2 (.inl rfl)
 have hS : TxSt (fun _ => True) w0 w (w2.alloc (.cells #[.int .i64 (wrap64 (1 + a)), .int .i64 (wrap64 (1 + b)), .slice none 0 0, .slice none 0 0] 30)) g w2.heap.size w.heap.size s0_0 p2 (wrap64 (1 + a)) (wrap64 (1 + b)) (.slice none 0 0) [] (.slice none 0 0) [] (.slice none 0 0) [] :=
  ⟨⟨hi2.alloc _, by simpa using heap_alloc_new w2 _, blk_grown HG2 (grown_of_below (below_alloc (Below.refl _ _) _) none) (by simp)⟩, ⟨Nat.le_refl _, HK2.1, Nat.ne_of_lt (blk_lt HG2), HGW.out, HSZ.out⟩, ⟨Kd.R_nil _ _ _ _ _, Kd.R_nil _ _ _ _ _, Kd.R_nil _ _ _ _ _⟩, below_alloc hb2 _, KeepBut.trans HK2 (KeepBut.of_below (below_alloc (Below.refl _ _) _) g none) (.inl rfl)⟩
 have HS := Aside0.mk hS
 clear HI1 HB1 HK1 HG1 HG2 HK2 hi2 hb2 hk2 hS
 go_wp2_with fail
 refine (TxSt.keys HS.out H3.out).mono ?_
 rintro e w3 ⟨vk, rfl, hS⟩
 have HS3 := Aside0.mk hS
 obtain ⟨gt, hgt⟩ : ∃ x, w2.heap.size = x := ⟨_, rfl⟩
 rw [hgt] at HS3
 clear hS HS
 go_wp2_with fail
 (try rw [hgt])
 clear hgt
 go_loopw [7] (fun v7 w' => ∃ (j : Nat) (pos : Int) (vr : Value) (rs' : List (S24)), j ≤ ks.length ∧ v7 = .int .i64 j ∧ Aside0 (txReads s0_0 a1 (ks.drop j) pos rs' = some (rs, p4)) ∧ Aside0 (TxSt (fun _ => True) w0 w w' g gt w.heap.size s0_0 pos (wrap64 (1 + a)) (wrap64 (1 + b)) vk ks vr rs' (.slice none 0 0) [])) (fun v7 _ => ks.length - (intOf v7).toNat)
 case atStart => exact ⟨0, p3, _, [], Nat.zero_le _, rfl, ⟨by simpa using H4.out⟩, HS3⟩
 case round =>
  clear H1 H2 H3 H4 HS3
  obtain ⟨j, pos, vr, rs', hj, rfl, HA, HS⟩ := hrel
  obtain ⟨Ak, ck, ek⟩ := Kd.R_slice HS.out.2.2.1.1
  have hm : ks.length ≤ 9223372036854775807 := by
   have h_ := HS.out.2.2.1.1
   rw [ek] at h_
   exact Kd.C_max (Kd.R_reads' h_).2.2
  by_cases hlt : j < ks.length
  ·have hd : ks.drop j = rdOf ByteArray.empty ks (j : Int) :: ks.drop (j + 1) := by
    rw [List.drop_eq_getElem_cons hlt]
    simp [rdOf, List.getD_eq_getElem?_getD, List.getElem?_eq_getElem hlt]
   have hA := HA.out
   rw [hd] at hA
   simp only [txReads] at hA
   obtain ⟨⟨v, p7⟩, h7, hA⟩ := Option.bind_eq_some_iff.1 hA
   obtain ⟨⟨s, th, p8⟩, h8, hA⟩ := Option.bind_eq_some_iff.1 hA
   dsimp only at hA h8
   have hlen : rs'.length < 1000000 := Decidable.byContradiction fun hn => by rw [if_neg hn] at hA; cases hA
   rw [if_pos hlen] at hA
   have H7 := Aside0.mk h7
   have H8 := Aside0.mk h8
   have HA2 := Aside0.mk hA
   have HLen := Aside0.mk hlen
   clear h7 h8 hA hlen HA hd
   repeat clear hA
   subst ek
   have p1 : 0 ≤ ((j : Int)) := by omega
   have q1 : ((j : Int)) < (ks.length : Int) := by omega
   obtain ⟨ad, e1, hx⟩ := Kd.at_string (Kd.R_reads' HS.out.2.2.1.1).2.2 (j : Int) p1 q1
   cases e1
   obtain ⟨x, hxe⟩ : ∃ x, rdOf ByteArray.empty ks (j : Int) = x := ⟨_, rfl⟩
   rw [hxe] at HA2
   have hkey : Aside0 (∀ (ok : Nat → Prop) (W : World) (pos : Int), TxSt ok w0 w W g gt w.heap.size s0_0 pos (wrap64 (1 + a)) (wrap64 (1 + b)) (.slice (some ad) ks.length ck) ks vr rs' (.slice none 0 0) [] → W.cell? (ad.add j) = some (.string x)) := ⟨fun _ _ _ h_ => by have h2_ := h_.key p1 q1; rw [hxe] at h2_; simpa using h2_⟩
   clear hx
   have hx := hkey.out _ _ _ HS.out
   have HSd := Aside0.mk HS.out.drew
   have H4a : Aside0 (gt ≠ wr.heap.size) := ⟨Nat.ne_of_lt (blk_lt HS.out.1.2.1)⟩
   have H4b : Aside0 (w.heap.size ≠ wr.heap.size) := ⟨Nat.ne_of_lt (blk_lt HS.out.1.2.2)⟩
   have H4c : Aside0 (w.heap.size ≤ wr.heap.size) := ⟨HS.out.2.2.2.2.1⟩
   have HNg : Aside0 (wr.heap.size ≠ g) := ⟨by have := HGW.out; have := H4c.out; omega⟩
   have HZ := Aside0.mk (blk_drew (heap_alloc_new wr (.cells #[.string ⟨#[]⟩, .int .i64 0, .string ⟨#[]⟩, .bool false] 24)))
   have HSb := Aside0.mk (HS.out.elder.alloc (.cells #[.string ⟨#[]⟩, .int .i64 0, .string ⟨#[]⟩, .bool false] 24))
   have HSa := Aside0.mk ((HS.out.elder.alloc (.cells #[.string ⟨#[]⟩, .int .i64 0, .string ⟨#[]⟩, .bool false] 24)).drew)
   obtain ⟨mm, hmm⟩ : ∃ m, mx a1 1 = m := ⟨_, rfl⟩
   rw [hmm] at H7
   have hmm_ : (if a1 < 1 then 1 else a1) = mm := hmm
   clear hxe
   go_wp2_with fail
   go_region_held3 (fun w' => w'.cell? (ad.add j) = some (.string x))
    (first | (apply hkey.out; (first | with_reducible exact HSd.out | with_reducible exact HSa.out | with_reducible exact HSb.out | with_reducible exact HS4.out | with_reducible exact HS4.out.alloc _ | (with_reducible refine TxSt.far (TxSt.far (TxSt.far (TxSt.far HS4.out H4a.out H4b.out H4c.out 0 _) H4a.out H4b.out H4c.out 1 _) H4a.out H4b.out H4c.out 2 _) H4a.out H4b.out H4c.out 3 _))))
    (first | (go_at_call 78; (with_reducible refine (TxSt.num HSd.out H7.out).mono ?_); rintro e w4 ⟨rfl, hS4, hk4⟩; have HS4 := Aside0.mk hS4; have HK4 := Aside0.mk hk4; clear hS4 hk4) | (go_at_call 78; (with_reducible refine (TxSt.num HSa.out H7.out).mono ?_); rintro e w4 ⟨rfl, hS4, hk4⟩; have hbx := hk4.blk HZ.out HNg.out (by simp); have HS4 := Aside0.mk hS4; have HK4 := Aside0.mk hk4; clear hS4 hk4; have hf40 := blk_frozen hbx 0; have hf41 := blk_frozen hbx 1; have hf42 := blk_frozen hbx 2; have hf43 := blk_frozen hbx 3; have hc40 := (blk_cell hbx 0).trans rfl; have hc41 := (blk_cell hbx 1).trans rfl; have hc42 := (blk_cell hbx 2).trans rfl; have hc43 := (blk_cell hbx 3).trans rfl; have HBX := Aside0.mk hbx; clear hbx))
   ·have HX := Aside0.mk (heap_alloc_new w4 (.cells #[.string x, .int .i64 v, .string ⟨#[]⟩, .bool false] 24))
    have HSX := Aside0.mk (HS4.out.elder.alloc (.cells #[.string x, .int .i64 v, .string ⟨#[]⟩, .bool false] 24))
    have HXa : Aside0 (gt ≠ w4.heap.size) := ⟨Nat.ne_of_lt (blk_lt HS4.out.1.2.1)⟩
    have HXb : Aside0 (w.heap.size ≠ w4.heap.size) := ⟨Nat.ne_of_lt (blk_lt HS4.out.1.2.2)⟩
    have HXc : Aside0 (w.heap.size ≤ w4.heap.size) := ⟨HS4.out.2.2.2.2.1⟩
    generalize w4.alloc (.cells #[.string x, .int .i64 v, .string ⟨#[]⟩, .bool false] 24) = W at HX HSX ⊢
    generalize w4.heap.size = gx at HX HSX HXa HXb HXc ⊢
    clear HZ HSb HSa HSd H4a H4b H4c HNg hkey hx HS4 HK4
    (try clear hHeld)
    have hgx : gx ≠ g := by have := HGW.out; have := HXc.out; omega
    have h8 := H8.out
    unfold txThere at h8
    have hx1 := (blk_cell HX.out 1).trans rfl
    by_cases hv : 0 < v
    ·rw [if_pos hv] at h8
     have hvd : decide (0 < v) = true := decide_eq_true hv
     obtain ⟨⟨q, p9⟩, h9, h8⟩ := Option.bind_eq_some_iff.1 h8
     have H9 := Aside0.mk h9
     clear h9 hv
     go_wp2_with fail
     refine (TxSt.num HSX.out H9.out).mono ?_
     rintro e w9 ⟨rfl, hS9, hk9⟩
     have HX9 := Aside0.mk (hk9.blk HX.out hgx (by simp))
     have HS9 := Aside0.mk hS9
     clear hS9 hk9 HX HSX hx1
     by_cases hq : 0 < q
     ·rw [if_pos hq] at h8
      have hqd : decide (0 < q) = true := decide_eq_true hq
      obtain ⟨⟨sv, p10⟩, h10, h8⟩ := Option.bind_eq_some_iff.1 h8
      simp only [Option.some.injEq, Prod.mk.injEq] at h8
      obtain ⟨rfl, rfl, rfl⟩ := h8
      have H10 := Aside0.mk h10
      clear h10 hq
      go_wp2_with fail
      refine (TxSt.val HS9.out H10.out).mono ?_
      rintro e w11 ⟨rfl, hS11, hk11⟩
      have hX11 := hk11.blk HX9.out hgx (by simp)
      have hfx2 := blk_frozen hX11 2
      have hfx3 := blk_frozen hX11 3
      have hcx2 := (blk_cell hX11 2).trans rfl
      have hcx3 := (blk_cell hX11 3).trans rfl
      have HX11 : Aside0 (((w11.setCell ⟨gx, 3, none⟩ (.bool true)).setCell ⟨gx, 2, none⟩ (.string sv)).heap[gx]? = some (.cells #[.string x, .int .i64 v, .string sv, .bool true] 24 (0, 0))) := ⟨by have h_ := blk_set (blk_set hX11 3 (.bool true)) 2 (.string sv); simpa using h_⟩
      have HS11 := Aside0.mk (TxSt.far (TxSt.far hS11 HXa.out HXb.out HXc.out 3 (.bool true)) HXa.out HXb.out HXc.out 2 (.string sv))
      clear hS11 hk11 hX11 HX9 HS9
      have hy0 := (blk_cell HX11.out 0).trans rfl
      have hy1 := (blk_cell HX11.out 1).trans rfl
      have hy2 := (blk_cell HX11.out 2).trans rfl
      have hy3 := (blk_cell HX11.out 3).trans rfl
      have hy4 := (blk_cell HS11.out.1.2.1 2).trans rfl
      go_wp2_with (first | ((with_reducible refine gate_builtin (b := .append) (xs := #[.tmp 49, .tmp 51]) rfl ?_); at_builtin; refine Kd.R_append k24 w.heap.size rfl (.tmp 49) (.tmp 51) 25 24 (.agg #[(.string ⟨#[]⟩), (.int .i64 0), (.string ⟨#[]⟩), (.bool false)]) 48 rfl Try.underlying25 info24 rfl (by decide) (by omega) vr rs' (⟨x, v, sv, true⟩ : S24) [.string x, .int .i64 v, .string sv, .bool true] (fun k_ => k_ ≠ gx) (fun _ => False) rfl (by first | (go_simp; done) | (go_simp; rfl)) (k24_mkM _ _ _ (⟨x, v, sv, true⟩ : S24)) (fun _ hk => hk.elim) (fun k_ hk => by have := blk_lt HX11.out; omega) HS11.out.2.2.1.2.1 (Below.refl _ _) HS11.out.2.2.2.2.1 (by have := HLen.out; omega) ?_; intro v1 w10 ho hb hg hat; obtain ⟨Av, cv, rfl⟩ := Kd.R_slice ho; have HO := Aside0.mk ho; have HB10 := Aside0.mk (TxSt.grown_r HS11.out hg); have HG := Aside0.mk hg; have hf10 := blk_frozen (blk_grown HS11.out.1.2.1 hg (Kd.R_ne HS11.out.2.2.1.2.1 HS11.out.1.2.1 (by decide))) 2; have hc10 := (blk_cell (blk_grown HS11.out.1.2.1 hg (Kd.R_ne HS11.out.2.2.1.2.1 HS11.out.1.2.1 (by decide))) 2).trans rfl; clear ho hb hg hat hy0 hy1 hy2 hy3 hy4))
      have HS12 := Aside0.mk ((HS11.out.put_r HO.out HB10.out HG.out).mono (ok' := fun _ => True) (fun _ _ => trivial))
      clear HO HB10 HG hf10 hc10
      go_roundw
      case rel => exact ⟨j + 1, p10, _, _, by omega, by go_num, HA2, ⟨by have h_ := HS12.out; simp only [List.length_append, List.length_singleton] at h_; exact h_⟩⟩
      case measure => simp [intOf]; omega
     ·rw [if_neg hq] at h8
      have hqd : decide (0 < q) = false := decide_eq_false hq
      simp only [Option.some.injEq, Prod.mk.injEq] at h8
      obtain ⟨rfl, rfl, rfl⟩ := h8
      have hy0 := (blk_cell HX9.out 0).trans rfl
      have hy1 := (blk_cell HX9.out 1).trans rfl
      have hy2 := (blk_cell HX9.out 2).trans rfl
      have hy3 := (blk_cell HX9.out 3).trans rfl
      have hy4 := (blk_cell HS9.out.1.2.1 2).trans rfl
      go_wp2_with (first | ((with_reducible refine gate_builtin (b := .append) (xs := #[.tmp 49, .tmp 51]) rfl ?_); at_builtin; refine Kd.R_append k24 w.heap.size rfl (.tmp 49) (.tmp 51) 25 24 (.agg #[(.string ⟨#[]⟩), (.int .i64 0), (.string ⟨#[]⟩), (.bool false)]) 48 rfl Try.underlying25 info24 rfl (by decide) (by omega) vr rs' (⟨x, v, ⟨#[]⟩, false⟩ : S24) [.string x, .int .i64 v, .string ⟨#[]⟩, .bool false] (fun k_ => k_ ≠ gx) (fun _ => False) rfl (by first | (go_simp; done) | (go_simp; rfl)) (k24_mkM _ _ _ (⟨x, v, ⟨#[]⟩, false⟩ : S24)) (fun _ hk => hk.elim) (fun k_ hk => by have := blk_lt HX9.out; omega) HS9.out.2.2.1.2.1 (Below.refl _ _) HS9.out.2.2.2.2.1 (by have := HLen.out; omega) ?_; intro v1 w10 ho hb hg hat; obtain ⟨Av, cv, rfl⟩ := Kd.R_slice ho; have HO := Aside0.mk ho; have HB10 := Aside0.mk (TxSt.grown_r HS9.out hg); have HG := Aside0.mk hg; have hf10 := blk_frozen (blk_grown HS9.out.1.2.1 hg (Kd.R_ne HS9.out.2.2.1.2.1 HS9.out.1.2.1 (by decide))) 2; have hc10 := (blk_cell (blk_grown HS9.out.1.2.1 hg (Kd.R_ne HS9.out.2.2.1.2.1 HS9.out.1.2.1 (by decide))) 2).trans rfl; clear ho hb hg hat hy0 hy1 hy2 hy3 hy4))
      have HS12 := Aside0.mk ((HS9.out.put_r HO.out HB10.out HG.out).mono (ok' := fun _ => True) (fun _ _ => trivial))
      clear HO HB10 HG hf10 hc10
      go_roundw
      case rel => exact ⟨j + 1, p9, _, _, by omega, by go_num, HA2, ⟨by have h_ := HS12.out; simp only [List.length_append, List.length_singleton] at h_; exact h_⟩⟩
      case measure => simp [intOf]; omega
    ·rw [if_neg hv] at h8
     have hvd : decide (0 < v) = false := decide_eq_false hv
     simp only [Option.some.injEq, Prod.mk.injEq] at h8
     obtain ⟨rfl, rfl, rfl⟩ := h8
     clear hx1
     have hy0 := (blk_cell HX.out 0).trans rfl
     have hy1 := (blk_cell HX.out 1).trans rfl
     have hy2 := (blk_cell HX.out 2).trans rfl
     have hy3 := (blk_cell HX.out 3).trans rfl
     have hy4 := (blk_cell HSX.out.1.2.1 2).trans rfl
     go_wp2_with (first | ((with_reducible refine gate_builtin (b := .append) (xs := #[.tmp 49, .tmp 51]) rfl ?_); at_builtin; refine Kd.R_append k24 w.heap.size rfl (.tmp 49) (.tmp 51) 25 24 (.agg #[(.string ⟨#[]⟩), (.int .i64 0), (.string ⟨#[]⟩), (.bool false)]) 48 rfl Try.underlying25 info24 rfl (by decide) (by omega) vr rs' (⟨x, v, ⟨#[]⟩, false⟩ : S24) [.string x, .int .i64 v, .string ⟨#[]⟩, .bool false] (fun k_ => k_ ≠ gx) (fun _ => False) rfl (by first | (go_simp; done) | (go_simp; rfl)) (k24_mkM _ _ _ (⟨x, v, ⟨#[]⟩, false⟩ : S24)) (fun _ hk => hk.elim) (fun k_ hk => by have := blk_lt HX.out; omega) HSX.out.2.2.1.2.1 (Below.refl _ _) HSX.out.2.2.2.2.1 (by have := HLen.out; omega) ?_; intro v1 w10 ho hb hg hat; obtain ⟨Av, cv, rfl⟩ := Kd.R_slice ho; have HO := Aside0.mk ho; have HB10 := Aside0.mk (TxSt.grown_r HSX.out hg); have HG := Aside0.mk hg; have hf10 := blk_frozen (blk_grown HSX.out.1.2.1 hg (Kd.R_ne HSX.out.2.2.1.2.1 HSX.out.1.2.1 (by decide))) 2; have hc10 := (blk_cell (blk_grown HSX.out.1.2.1 hg (Kd.R_ne HSX.out.2.2.1.2.1 HSX.out.1.2.1 (by decide))) 2).trans rfl; clear ho hb hg hat hy0 hy1 hy2 hy3 hy4))
     have HS12 := Aside0.mk ((HSX.out.put_r HO.out HB10.out HG.out).mono (ok' := fun _ => True) (fun _ _ => trivial))
     clear HO HB10 HG hf10 hc10
     go_roundw
     case rel => exact ⟨j + 1, p7, _, _, by omega, by go_num, HA2, ⟨by have h_ := HS12.out; simp only [List.length_append, List.length_singleton] at h_; exact h_⟩⟩
     case measure => simp [intOf]; omega
   all_goals
    have HX : Aside0 (((((w4.setCell ⟨wr.heap.size, 0, none⟩ (.string x)).setCell ⟨wr.heap.size, 1, none⟩ (.int .i64 v)).setCell ⟨wr.heap.size, 2, none⟩ (.string ⟨#[]⟩)).setCell ⟨wr.heap.size, 3, none⟩ (.bool false)).heap[wr.heap.size]? = some (.cells #[.string x, .int .i64 v, .string ⟨#[]⟩, .bool false] 24 (0, 0))) := ⟨by have h_ := blk_set (blk_set (blk_set (blk_set HBX.out 0 (.string x)) 1 (.int .i64 v)) 2 (.string ⟨#[]⟩)) 3 (.bool false); simpa using h_⟩
    have HSX := Aside0.mk (TxSt.far (TxSt.far (TxSt.far (TxSt.far HS4.out H4a.out H4b.out H4c.out 0 (.string x)) H4a.out H4b.out H4c.out 1 (.int .i64 v)) H4a.out H4b.out H4c.out 2 (.string ⟨#[]⟩)) H4a.out H4b.out H4c.out 3 (.bool false))
    have HXa := H4a
    have HXb := H4b
    have HXc := H4c
    clear hf40 hf41 hf42 hf43 hc40 hc41 hc42 hc43 HBX
    clear HZ HSb HSa HSd H4a H4b H4c HNg hkey hx HS4 HK4
    (try clear hHeld)
    have hgx : wr.heap.size ≠ g := by have := HGW.out; have := HXc.out; omega
    have h8 := H8.out
    unfold txThere at h8
    have hx1 := (blk_cell HX.out 1).trans rfl
    by_cases hv : 0 < v
    ·rw [if_pos hv] at h8
     have hvd : decide (0 < v) = true := decide_eq_true hv
     obtain ⟨⟨q, p9⟩, h9, h8⟩ := Option.bind_eq_some_iff.1 h8
     have H9 := Aside0.mk h9
     clear h9 hv
     go_wp2_with fail
     refine (TxSt.num HSX.out H9.out).mono ?_
     rintro e w9 ⟨rfl, hS9, hk9⟩
     have HX9 := Aside0.mk (hk9.blk HX.out hgx (by simp))
     have HS9 := Aside0.mk hS9
     clear hS9 hk9 HX HSX hx1
     by_cases hq : 0 < q
     ·rw [if_pos hq] at h8
      have hqd : decide (0 < q) = true := decide_eq_true hq
      obtain ⟨⟨sv, p10⟩, h10, h8⟩ := Option.bind_eq_some_iff.1 h8
      simp only [Option.some.injEq, Prod.mk.injEq] at h8
      obtain ⟨rfl, rfl, rfl⟩ := h8
      have H10 := Aside0.mk h10
      clear h10 hq
      go_wp2_with fail
      refine (TxSt.val HS9.out H10.out).mono ?_
      rintro e w11 ⟨rfl, hS11, hk11⟩
      have hX11 := hk11.blk HX9.out hgx (by simp)
      have hfx2 := blk_frozen hX11 2
      have hfx3 := blk_frozen hX11 3
      have hcx2 := (blk_cell hX11 2).trans rfl
      have hcx3 := (blk_cell hX11 3).trans rfl
      have HX11 : Aside0 (((w11.setCell ⟨wr.heap.size, 3, none⟩ (.bool true)).setCell ⟨wr.heap.size, 2, none⟩ (.string sv)).heap[wr.heap.size]? = some (.cells #[.string x, .int .i64 v, .string sv, .bool true] 24 (0, 0))) := ⟨by have h_ := blk_set (blk_set hX11 3 (.bool true)) 2 (.string sv); simpa using h_⟩
      have HS11 := Aside0.mk (TxSt.far (TxSt.far hS11 HXa.out HXb.out HXc.out 3 (.bool true)) HXa.out HXb.out HXc.out 2 (.string sv))
      clear hS11 hk11 hX11 HX9 HS9
      have hy0 := (blk_cell HX11.out 0).trans rfl
      have hy1 := (blk_cell HX11.out 1).trans rfl
      have hy2 := (blk_cell HX11.out 2).trans rfl
      have hy3 := (blk_cell HX11.out 3).trans rfl
      have hy4 := (blk_cell HS11.out.1.2.1 2).trans rfl
      go_wp2_with (first | ((with_reducible refine gate_builtin (b := .append) (xs := #[.tmp 49, .tmp 51]) rfl ?_); at_builtin; refine Kd.R_append k24 w.heap.size rfl (.tmp 49) (.tmp 51) 25 24 (.agg #[(.string ⟨#[]⟩), (.int .i64 0), (.string ⟨#[]⟩), (.bool false)]) 48 rfl Try.underlying25 info24 rfl (by decide) (by omega) vr rs' (⟨x, v, sv, true⟩ : S24) [.string x, .int .i64 v, .string sv, .bool true] (fun k_ => k_ ≠ wr.heap.size) (fun _ => False) rfl (by first | (go_simp; done) | (go_simp; rfl)) (k24_mkM _ _ _ (⟨x, v, sv, true⟩ : S24)) (fun _ hk => hk.elim) (fun k_ hk => by have := blk_lt HX11.out; omega) HS11.out.2.2.1.2.1 (Below.refl _ _) HS11.out.2.2.2.2.1 (by have := HLen.out; omega) ?_; intro v1 w10 ho hb hg hat; obtain ⟨Av, cv, rfl⟩ := Kd.R_slice ho; have HO := Aside0.mk ho; have HB10 := Aside0.mk (TxSt.grown_r HS11.out hg); have HG := Aside0.mk hg; have hf10 := blk_frozen (blk_grown HS11.out.1.2.1 hg (Kd.R_ne HS11.out.2.2.1.2.1 HS11.out.1.2.1 (by decide))) 2; have hc10 := (blk_cell (blk_grown HS11.out.1.2.1 hg (Kd.R_ne HS11.out.2.2.1.2.1 HS11.out.1.2.1 (by decide))) 2).trans rfl; clear ho hb hg hat hy0 hy1 hy2 hy3 hy4))
      have HS12 := Aside0.mk ((HS11.out.put_r HO.out HB10.out HG.out).mono (ok' := fun _ => True) (fun _ _ => trivial))
      clear HO HB10 HG hf10 hc10
      go_roundw
      case rel => exact ⟨j + 1, p10, _, _, by omega, by go_num, HA2, ⟨by have h_ := HS12.out; simp only [List.length_append, List.length_singleton] at h_; exact h_⟩⟩
      case measure => simp [intOf]; omega
     ·rw [if_neg hq] at h8
      have hqd : decide (0 < q) = false := decide_eq_false hq
      simp only [Option.some.injEq, Prod.mk.injEq] at h8
      obtain ⟨rfl, rfl, rfl⟩ := h8
      have hy0 := (blk_cell HX9.out 0).trans rfl
      have hy1 := (blk_cell HX9.out 1).trans rfl
      have hy2 := (blk_cell HX9.out 2).trans rfl
      have hy3 := (blk_cell HX9.out 3).trans rfl
      have hy4 := (blk_cell HS9.out.1.2.1 2).trans rfl
      go_wp2_with (first | ((with_reducible refine gate_builtin (b := .append) (xs := #[.tmp 49, .tmp 51]) rfl ?_); at_builtin; refine Kd.R_append k24 w.heap.size rfl (.tmp 49) (.tmp 51) 25 24 (.agg #[(.string ⟨#[]⟩), (.int .i64 0), (.string ⟨#[]⟩), (.bool false)]) 48 rfl Try.underlying25 info24 rfl (by decide) (by omega) vr rs' (⟨x, v, ⟨#[]⟩, false⟩ : S24) [.string x, .int .i64 v, .string ⟨#[]⟩, .bool false] (fun k_ => k_ ≠ wr.heap.size) (fun _ => False) rfl (by first | (go_simp; done) | (go_simp; rfl)) (k24_mkM _ _ _ (⟨x, v, ⟨#[]⟩, false⟩ : S24)) (fun _ hk => hk.elim) (fun k_ hk => by have := blk_lt HX9.out; omega) HS9.out.2.2.1.2.1 (Below.refl _ _) HS9.out.2.2.2.2.1 (by have := HLen.out; omega) ?_; intro v1 w10 ho hb hg hat; obtain ⟨Av, cv, rfl⟩ := Kd.R_slice ho; have HO := Aside0.mk ho; have HB10 := Aside0.mk (TxSt.grown_r HS9.out hg); have HG := Aside0.mk hg; have hf10 := blk_frozen (blk_grown HS9.out.1.2.1 hg (Kd.R_ne HS9.out.2.2.1.2.1 HS9.out.1.2.1 (by decide))) 2; have hc10 := (blk_cell (blk_grown HS9.out.1.2.1 hg (Kd.R_ne HS9.out.2.2.1.2.1 HS9.out.1.2.1 (by decide))) 2).trans rfl; clear ho hb hg hat hy0 hy1 hy2 hy3 hy4))
      have HS12 := Aside0.mk ((HS9.out.put_r HO.out HB10.out HG.out).mono (ok' := fun _ => True) (fun _ _ => trivial))
      clear HO HB10 HG hf10 hc10
      go_roundw
      case rel => exact ⟨j + 1, p9, _, _, by omega, by go_num, HA2, ⟨by have h_ := HS12.out; simp only [List.length_append, List.length_singleton] at h_; exact h_⟩⟩
      case measure => simp [intOf]; omega
    ·rw [if_neg hv] at h8
     have hvd : decide (0 < v) = false := decide_eq_false hv
     simp only [Option.some.injEq, Prod.mk.injEq] at h8
     obtain ⟨rfl, rfl, rfl⟩ := h8
     clear hx1
     have hy0 := (blk_cell HX.out 0).trans rfl
     have hy1 := (blk_cell HX.out 1).trans rfl
     have hy2 := (blk_cell HX.out 2).trans rfl
     have hy3 := (blk_cell HX.out 3).trans rfl
     have hy4 := (blk_cell HSX.out.1.2.1 2).trans rfl
     go_wp2_with (first | ((with_reducible refine gate_builtin (b := .append) (xs := #[.tmp 49, .tmp 51]) rfl ?_); at_builtin; refine Kd.R_append k24 w.heap.size rfl (.tmp 49) (.tmp 51) 25 24 (.agg #[(.string ⟨#[]⟩), (.int .i64 0), (.string ⟨#[]⟩), (.bool false)]) 48 rfl Try.underlying25 info24 rfl (by decide) (by omega) vr rs' (⟨x, v, ⟨#[]⟩, false⟩ : S24) [.string x, .int .i64 v, .string ⟨#[]⟩, .bool false] (fun k_ => k_ ≠ wr.heap.size) (fun _ => False) rfl (by first | (go_simp; done) | (go_simp; rfl)) (k24_mkM _ _ _ (⟨x, v, ⟨#[]⟩, false⟩ : S24)) (fun _ hk => hk.elim) (fun k_ hk => by have := blk_lt HX.out; omega) HSX.out.2.2.1.2.1 (Below.refl _ _) HSX.out.2.2.2.2.1 (by have := HLen.out; omega) ?_; intro v1 w10 ho hb hg hat; obtain ⟨Av, cv, rfl⟩ := Kd.R_slice ho; have HO := Aside0.mk ho; have HB10 := Aside0.mk (TxSt.grown_r HSX.out hg); have HG := Aside0.mk hg; have hf10 := blk_frozen (blk_grown HSX.out.1.2.1 hg (Kd.R_ne HSX.out.2.2.1.2.1 HSX.out.1.2.1 (by decide))) 2; have hc10 := (blk_cell (blk_grown HSX.out.1.2.1 hg (Kd.R_ne HSX.out.2.2.1.2.1 HSX.out.1.2.1 (by decide))) 2).trans rfl; clear ho hb hg hat hy0 hy1 hy2 hy3 hy4))
     have HS12 := Aside0.mk ((HSX.out.put_r HO.out HB10.out HG.out).mono (ok' := fun _ => True) (fun _ _ => trivial))
     clear HO HB10 HG hf10 hc10
     go_roundw
     case rel => exact ⟨j + 1, p7, _, _, by omega, by go_num, HA2, ⟨by have h_ := HS12.out; simp only [List.length_append, List.length_singleton] at h_; exact h_⟩⟩
     case measure => simp [intOf]; omega
  ·have hjl : j = ks.length := by omega
   have hA := HA.out
   rw [hjl, List.drop_length] at hA
   simp only [txReads, Option.some.injEq, Prod.mk.injEq] at hA
   obtain ⟨rfl, rfl⟩ := hA
   have hd1 : decide (j < ks.length) = false := decide_eq_false hlt
   clear HA hjl
   subst ek
   go_wp2_with fail
   refine (TxSt.keys HS.out H5.out).mono ?_
   rintro e w20 ⟨vq, rfl, hS⟩
   have HS20 := Aside0.mk hS
   clear hS HS hd1 hlt hj hm
   go_wp2_with fail
   go_loopw [10] (fun v10 w' => ∃ (i2 : Nat) (pos2 : Int) (vw : Value) (ws' : List (S27)), i2 ≤ kw.length ∧ v10 = .int .i64 i2 ∧ Aside0 (txWrites s0_0 (kw.drop i2) pos2 ws' = some (ws, p6)) ∧ Aside0 (TxSt (fun _ => True) w0 w w' g gt w.heap.size s0_0 pos2 (wrap64 (1 + a)) (wrap64 (1 + b)) vq kw vr rs' vw ws')) (fun v10 _ => kw.length - (intOf v10).toNat)
   case atStart => exact ⟨0, p5, _, [], Nat.zero_le _, rfl, ⟨by simpa using H6.out⟩, HS20⟩
   case round =>
    clear H5 H6 HS20
    obtain ⟨i2, pos2, vw, ws', hj, rfl, HA, HS⟩ := hrel
    obtain ⟨Ak, ck, ek⟩ := Kd.R_slice HS.out.2.2.1.1
    have hm : kw.length ≤ 9223372036854775807 := by
     have h_ := HS.out.2.2.1.1
     rw [ek] at h_
     exact Kd.C_max (Kd.R_reads' h_).2.2
    by_cases hlt : i2 < kw.length
    ·have hd : kw.drop i2 = rdOf ByteArray.empty kw (i2 : Int) :: kw.drop (i2 + 1) := by
      rw [List.drop_eq_getElem_cons hlt]
      simp [rdOf, List.getD_eq_getElem?_getD, List.getElem?_eq_getElem hlt]
     have hA := HA.out
     rw [hd] at hA
     simp only [txWrites] at hA
     obtain ⟨⟨v, p7⟩, h7, hA⟩ := Option.bind_eq_some_iff.1 hA
     obtain ⟨⟨q, p8⟩, h8, hA⟩ := Option.bind_eq_some_iff.1 hA
     dsimp only at hA h8
     have hlen : ws'.length < 1000000 := Decidable.byContradiction fun hn => by rw [if_neg hn] at hA; cases hA
     rw [if_pos hlen] at hA
     have H7 := Aside0.mk h7
     have H8 := Aside0.mk h8
     have HLen := Aside0.mk hlen
     have hA2 := hA
     clear h7 h8 hlen HA hd hA
     repeat clear hA
     subst ek
     have p1 : 0 ≤ ((i2 : Int)) := by omega
     have q1 : ((i2 : Int)) < (kw.length : Int) := by omega
     obtain ⟨ad, e1, hx⟩ := Kd.at_string (Kd.R_reads' HS.out.2.2.1.1).2.2 (i2 : Int) p1 q1
     cases e1
     obtain ⟨x, hxe⟩ : ∃ x, rdOf ByteArray.empty kw (i2 : Int) = x := ⟨_, rfl⟩
     rw [hxe] at hA2
     have hkey : Aside0 (∀ (ok : Nat → Prop) (W : World) (pos : Int), TxSt ok w0 w W g gt w.heap.size s0_0 pos (wrap64 (1 + a)) (wrap64 (1 + b)) (.slice (some ad) kw.length ck) kw vr rs' vw ws' → W.cell? (ad.add i2) = some (.string x)) := ⟨fun _ _ _ h_ => by have h2_ := h_.key p1 q1; rw [hxe] at h2_; simpa using h2_⟩
     clear hx
     have hx := hkey.out _ _ _ HS.out
     have HSd := Aside0.mk HS.out.drew
     have H4a : Aside0 (gt ≠ wr.heap.size) := ⟨Nat.ne_of_lt (blk_lt HS.out.1.2.1)⟩
     have H4b : Aside0 (w.heap.size ≠ wr.heap.size) := ⟨Nat.ne_of_lt (blk_lt HS.out.1.2.2)⟩
     have H4c : Aside0 (w.heap.size ≤ wr.heap.size) := ⟨HS.out.2.2.2.2.1⟩
     have HNg : Aside0 (wr.heap.size ≠ g) := ⟨by have := HGW.out; have := H4c.out; omega⟩
     have HZ := Aside0.mk (blk_drew (heap_alloc_new wr (.cells #[.string ⟨#[]⟩, .string ⟨#[]⟩, .bool false] 27)))
     have HSb := Aside0.mk (HS.out.elder.alloc (.cells #[.string ⟨#[]⟩, .string ⟨#[]⟩, .bool false] 27))
     have HSa := Aside0.mk ((HS.out.elder.alloc (.cells #[.string ⟨#[]⟩, .string ⟨#[]⟩, .bool false] 27)).drew)
     have HA2 := hA2
     clear hxe
     have HAA := Aside0.mk hA2
     clear HA2 hA2
     go_wp2_with fail
     go_region_held3 (fun w' => w'.cell? (ad.add i2) = some (.string x))
      (first | (apply hkey.out; (first | with_reducible exact HSd.out | with_reducible exact HSa.out | with_reducible exact HSb.out | with_reducible exact HS4.out | with_reducible exact HS4.out.alloc _ | (with_reducible refine TxSt.far (TxSt.far (TxSt.far HS4.out H4a.out H4b.out H4c.out 0 _) H4a.out H4b.out H4c.out 1 _) H4a.out H4b.out H4c.out 2 _))))
      (first | (go_at_call 80; (with_reducible refine (TxSt.val HSd.out H7.out).mono ?_); rintro e w4 ⟨rfl, hS4, hk4⟩; have HS4 := Aside0.mk hS4; have HK4 := Aside0.mk hk4; clear hS4 hk4) | (go_at_call 80; (with_reducible refine (TxSt.val HSa.out H7.out).mono ?_); rintro e w4 ⟨rfl, hS4, hk4⟩; have hbx := hk4.blk HZ.out HNg.out (by simp); have HS4 := Aside0.mk hS4; have HK4 := Aside0.mk hk4; clear hS4 hk4; have hf40 := blk_frozen hbx 0; have hf41 := blk_frozen hbx 1; have hf42 := blk_frozen hbx 2; have hc40 := (blk_cell hbx 0).trans rfl; have hc41 := (blk_cell hbx 1).trans rfl; have hc42 := (blk_cell hbx 2).trans rfl; have HBX := Aside0.mk hbx; clear hbx))
     ·have HX := Aside0.mk (heap_alloc_new w4 (.cells #[.string x, .string v, .bool false] 27))
      have HSX := Aside0.mk (HS4.out.elder.alloc (.cells #[.string x, .string v, .bool false] 27))
      have HXa : Aside0 (gt ≠ w4.heap.size) := ⟨Nat.ne_of_lt (blk_lt HS4.out.1.2.1)⟩
      have HXb : Aside0 (w.heap.size ≠ w4.heap.size) := ⟨Nat.ne_of_lt (blk_lt HS4.out.1.2.2)⟩
      have HXc : Aside0 (w.heap.size ≤ w4.heap.size) := ⟨HS4.out.2.2.2.2.1⟩
      generalize w4.alloc (.cells #[.string x, .string v, .bool false] 27) = W at HX HSX ⊢
      generalize w4.heap.size = gx at HX HSX HXa HXb HXc ⊢
      clear HZ HSb HSa HSd H4a H4b H4c HNg hkey hx HS4 HK4
      (try clear hHeld)
      have hgx : gx ≠ g := by have := HGW.out; have := HXc.out; omega
      go_wp2_with fail
      refine (TxSt.num HSX.out H8.out).mono ?_
      rintro e w11 ⟨rfl, hS11, hk11⟩
      have hX11 := hk11.blk HX.out hgx (by simp)
      by_cases hq : q = 0
      ·have HA2 := Aside0.mk (by have h_ := HAA.out; rw [if_pos hq] at h_; exact h_)
       have hqd : (q == 0) = true := by simp [hq]
       have hfx1 := blk_frozen hX11 1
       have hfx2 := blk_frozen hX11 2
       have hcx1 := (blk_cell hX11 1).trans rfl
       have hcx2 := (blk_cell hX11 2).trans rfl
       have HX11 : Aside0 (((w11.setCell ⟨gx, 2, none⟩ (.bool true)).setCell ⟨gx, 1, none⟩ (.string ⟨#[]⟩)).heap[gx]? = some (.cells #[.string x, .string ⟨#[]⟩, .bool true] 27 (0, 0))) := ⟨by have h_ := blk_set (blk_set hX11 2 (.bool true)) 1 (.string ⟨#[]⟩); simpa using h_⟩
       have HS11 := Aside0.mk (TxSt.far (TxSt.far hS11 HXa.out HXb.out HXc.out 2 (.bool true)) HXa.out HXb.out HXc.out 1 (.string ⟨#[]⟩))
       clear hS11 hk11 hX11 HX HSX hq
       have hy0 := (blk_cell HX11.out 0).trans rfl
       have hy1 := (blk_cell HX11.out 1).trans rfl
       have hy2 := (blk_cell HX11.out 2).trans rfl
       have hy4 := (blk_cell HS11.out.1.2.1 3).trans rfl
       go_wp2_with (first | ((with_reducible refine gate_builtin (b := .append) (xs := #[.tmp 75, .tmp 77]) rfl ?_); at_builtin; refine Kd.R_append k27 w.heap.size rfl (.tmp 75) (.tmp 77) 28 27 (.agg #[(.string ⟨#[]⟩), (.string ⟨#[]⟩), (.bool false)]) 40 rfl Try.underlying28 info27 rfl (by decide) (by omega) vw ws' (⟨x, ⟨#[]⟩, true⟩ : S27) [.string x, .string ⟨#[]⟩, .bool true] (fun k_ => k_ ≠ gx) (fun _ => False) rfl (by first | (go_simp; done) | (go_simp; rfl)) (k27_mkM _ _ _ (⟨x, ⟨#[]⟩, true⟩ : S27)) (fun _ hk => hk.elim) (fun k_ hk => by have := blk_lt HX11.out; omega) HS11.out.2.2.1.2.2 (Below.refl _ _) HS11.out.2.2.2.2.1 (by have := HLen.out; omega) ?_; intro v1 w10 ho hb hg hat; obtain ⟨Av, cv, rfl⟩ := Kd.R_slice ho; have HO := Aside0.mk ho; have HB10 := Aside0.mk (TxSt.grown_w HS11.out hg); have HG := Aside0.mk hg; have hf10 := blk_frozen (blk_grown HS11.out.1.2.1 hg (Kd.R_ne HS11.out.2.2.1.2.2 HS11.out.1.2.1 (by decide))) 3; have hc10 := (blk_cell (blk_grown HS11.out.1.2.1 hg (Kd.R_ne HS11.out.2.2.1.2.2 HS11.out.1.2.1 (by decide))) 3).trans rfl; clear ho hb hg hat hy0 hy1 hy2 hy4))
       have HS12 := Aside0.mk ((HS11.out.put_w HO.out HB10.out HG.out).mono (ok' := fun _ => True) (fun _ _ => trivial))
       clear HO HB10 HG hf10 hc10
       go_roundw
       case rel => exact ⟨i2 + 1, p8, _, _, by omega, by go_num, HA2, ⟨by have h_ := HS12.out; simp only [List.length_append, List.length_singleton] at h_; exact h_⟩⟩
       case measure => simp [intOf]; omega
      ·have HA2 := Aside0.mk (by have h_ := HAA.out; rw [if_neg hq] at h_; exact h_)
       have hqd : (q == 0) = false := by simp [hq]
       have HX11 := Aside0.mk hX11
       have HS11 := Aside0.mk hS11
       clear hS11 hk11 hX11 HX HSX hq
       have hy0 := (blk_cell HX11.out 0).trans rfl
       have hy1 := (blk_cell HX11.out 1).trans rfl
       have hy2 := (blk_cell HX11.out 2).trans rfl
       have hy4 := (blk_cell HS11.out.1.2.1 3).trans rfl
       go_wp2_with (first | ((with_reducible refine gate_builtin (b := .append) (xs := #[.tmp 75, .tmp 77]) rfl ?_); at_builtin; refine Kd.R_append k27 w.heap.size rfl (.tmp 75) (.tmp 77) 28 27 (.agg #[(.string ⟨#[]⟩), (.string ⟨#[]⟩), (.bool false)]) 40 rfl Try.underlying28 info27 rfl (by decide) (by omega) vw ws' (⟨x, v, false⟩ : S27) [.string x, .string v, .bool false] (fun k_ => k_ ≠ gx) (fun _ => False) rfl (by first | (go_simp; done) | (go_simp; rfl)) (k27_mkM _ _ _ (⟨x, v, false⟩ : S27)) (fun _ hk => hk.elim) (fun k_ hk => by have := blk_lt HX11.out; omega) HS11.out.2.2.1.2.2 (Below.refl _ _) HS11.out.2.2.2.2.1 (by have := HLen.out; omega) ?_; intro v1 w10 ho hb hg hat; obtain ⟨Av, cv, rfl⟩ := Kd.R_slice ho; have HO := Aside0.mk ho; have HB10 := Aside0.mk (TxSt.grown_w HS11.out hg); have HG := Aside0.mk hg; have hf10 := blk_frozen (blk_grown HS11.out.1.2.1 hg (Kd.R_ne HS11.out.2.2.1.2.2 HS11.out.1.2.1 (by decide))) 3; have hc10 := (blk_cell (blk_grown HS11.out.1.2.1 hg (Kd.R_ne HS11.out.2.2.1.2.2 HS11.out.1.2.1 (by decide))) 3).trans rfl; clear ho hb hg hat hy0 hy1 hy2 hy4))
       have HS12 := Aside0.mk ((HS11.out.put_w HO.out HB10.out HG.out).mono (ok' := fun _ => True) (fun _ _ => trivial))
       clear HO HB10 HG hf10 hc10
       go_roundw
       case rel => exact ⟨i2 + 1, p8, _, _, by omega, by go_num, HA2, ⟨by have h_ := HS12.out; simp only [List.length_append, List.length_singleton] at h_; exact h_⟩⟩
       case measure => simp [intOf]; omega
     all_goals
      have HX : Aside0 ((((w4.setCell ⟨wr.heap.size, 0, none⟩ (.string x)).setCell ⟨wr.heap.size, 1, none⟩ (.string v)).setCell ⟨wr.heap.size, 2, none⟩ (.bool false)).heap[wr.heap.size]? = some (.cells #[.string x, .string v, .bool false] 27 (0, 0))) := ⟨by have h_ := blk_set (blk_set (blk_set HBX.out 0 (.string x)) 1 (.string v)) 2 (.bool false); simpa using h_⟩
      have HSX := Aside0.mk (TxSt.far (TxSt.far (TxSt.far HS4.out H4a.out H4b.out H4c.out 0 (.string x)) H4a.out H4b.out H4c.out 1 (.string v)) H4a.out H4b.out H4c.out 2 (.bool false))
      have HXa := H4a
      have HXb := H4b
      have HXc := H4c
      clear hf40 hf41 hf42 hc40 hc41 hc42 HBX
      clear HZ HSb HSa HSd H4a H4b H4c HNg hkey hx HS4 HK4
      (try clear hHeld)
      have hgx : wr.heap.size ≠ g := by have := HGW.out; have := HXc.out; omega
      go_wp2_with fail
      refine (TxSt.num HSX.out H8.out).mono ?_
      rintro e w11 ⟨rfl, hS11, hk11⟩
      have hX11 := hk11.blk HX.out hgx (by simp)
      by_cases hq : q = 0
      ·have HA2 := Aside0.mk (by have h_ := HAA.out; rw [if_pos hq] at h_; exact h_)
       have hqd : (q == 0) = true := by simp [hq]
       have hfx1 := blk_frozen hX11 1
       have hfx2 := blk_frozen hX11 2
       have hcx1 := (blk_cell hX11 1).trans rfl
       have hcx2 := (blk_cell hX11 2).trans rfl
       have HX11 : Aside0 (((w11.setCell ⟨wr.heap.size, 2, none⟩ (.bool true)).setCell ⟨wr.heap.size, 1, none⟩ (.string ⟨#[]⟩)).heap[wr.heap.size]? = some (.cells #[.string x, .string ⟨#[]⟩, .bool true] 27 (0, 0))) := ⟨by have h_ := blk_set (blk_set hX11 2 (.bool true)) 1 (.string ⟨#[]⟩); simpa using h_⟩
       have HS11 := Aside0.mk (TxSt.far (TxSt.far hS11 HXa.out HXb.out HXc.out 2 (.bool true)) HXa.out HXb.out HXc.out 1 (.string ⟨#[]⟩))
       clear hS11 hk11 hX11 HX HSX hq
       have hy0 := (blk_cell HX11.out 0).trans rfl
       have hy1 := (blk_cell HX11.out 1).trans rfl
       have hy2 := (blk_cell HX11.out 2).trans rfl
       have hy4 := (blk_cell HS11.out.1.2.1 3).trans rfl
       go_wp2_with (first | ((with_reducible refine gate_builtin (b := .append) (xs := #[.tmp 75, .tmp 77]) rfl ?_); at_builtin; refine Kd.R_append k27 w.heap.size rfl (.tmp 75) (.tmp 77) 28 27 (.agg #[(.string ⟨#[]⟩), (.string ⟨#[]⟩), (.bool false)]) 40 rfl Try.underlying28 info27 rfl (by decide) (by omega) vw ws' (⟨x, ⟨#[]⟩, true⟩ : S27) [.string x, .string ⟨#[]⟩, .bool true] (fun k_ => k_ ≠ wr.heap.size) (fun _ => False) rfl (by first | (go_simp; done) | (go_simp; rfl)) (k27_mkM _ _ _ (⟨x, ⟨#[]⟩, true⟩ : S27)) (fun _ hk => hk.elim) (fun k_ hk => by have := blk_lt HX11.out; omega) HS11.out.2.2.1.2.2 (Below.refl _ _) HS11.out.2.2.2.2.1 (by have := HLen.out; omega) ?_; intro v1 w10 ho hb hg hat; obtain ⟨Av, cv, rfl⟩ := Kd.R_slice ho; have HO := Aside0.mk ho; have HB10 := Aside0.mk (TxSt.grown_w HS11.out hg); have HG := Aside0.mk hg; have hf10 := blk_frozen (blk_grown HS11.out.1.2.1 hg (Kd.R_ne HS11.out.2.2.1.2.2 HS11.out.1.2.1 (by decide))) 3; have hc10 := (blk_cell (blk_grown HS11.out.1.2.1 hg (Kd.R_ne HS11.out.2.2.1.2.2 HS11.out.1.2.1 (by decide))) 3).trans rfl; clear ho hb hg hat hy0 hy1 hy2 hy4))
       have HS12 := Aside0.mk ((HS11.out.put_w HO.out HB10.out HG.out).mono (ok' := fun _ => True) (fun _ _ => trivial))
       clear HO HB10 HG hf10 hc10
       go_roundw
       case rel => exact ⟨i2 + 1, p8, _, _, by omega, by go_num, HA2, ⟨by have h_ := HS12.out; simp only [List.length_append, List.length_singleton] at h_; exact h_⟩⟩
       case measure => simp [intOf]; omega
      ·have HA2 := Aside0.mk (by have h_ := HAA.out; rw [if_neg hq] at h_; exact h_)
       have hqd : (q == 0) = false := by simp [hq]
       have HX11 := Aside0.mk hX11
       have HS11 := Aside0.mk hS11
       clear hS11 hk11 hX11 HX HSX hq
       have hy0 := (blk_cell HX11.out 0).trans rfl
       have hy1 := (blk_cell HX11.out 1).trans rfl
       have hy2 := (blk_cell HX11.out 2).trans rfl
       have hy4 := (blk_cell HS11.out.1.2.1 3).trans rfl
       go_wp2_with (first | ((with_reducible refine gate_builtin (b := .append) (xs := #[.tmp 75, .tmp 77]) rfl ?_); at_builtin; refine Kd.R_append k27 w.heap.size rfl (.tmp 75) (.tmp 77) 28 27 (.agg #[(.string ⟨#[]⟩), (.string ⟨#[]⟩), (.bool false)]) 40 rfl Try.underlying28 info27 rfl (by decide) (by omega) vw ws' (⟨x, v, false⟩ : S27) [.string x, .string v, .bool false] (fun k_ => k_ ≠ wr.heap.size) (fun _ => False) rfl (by first | (go_simp; done) | (go_simp; rfl)) (k27_mkM _ _ _ (⟨x, v, false⟩ : S27)) (fun _ hk => hk.elim) (fun k_ hk => by have := blk_lt HX11.out; omega) HS11.out.2.2.1.2.2 (Below.refl _ _) HS11.out.2.2.2.2.1 (by have := HLen.out; omega) ?_; intro v1 w10 ho hb hg hat; obtain ⟨Av, cv, rfl⟩ := Kd.R_slice ho; have HO := Aside0.mk ho; have HB10 := Aside0.mk (TxSt.grown_w HS11.out hg); have HG := Aside0.mk hg; have hf10 := blk_frozen (blk_grown HS11.out.1.2.1 hg (Kd.R_ne HS11.out.2.2.1.2.2 HS11.out.1.2.1 (by decide))) 3; have hc10 := (blk_cell (blk_grown HS11.out.1.2.1 hg (Kd.R_ne HS11.out.2.2.1.2.2 HS11.out.1.2.1 (by decide))) 3).trans rfl; clear ho hb hg hat hy0 hy1 hy2 hy4))
       have HS12 := Aside0.mk ((HS11.out.put_w HO.out HB10.out HG.out).mono (ok' := fun _ => True) (fun _ _ => trivial))
       clear HO HB10 HG hf10 hc10
       go_roundw
       case rel => exact ⟨i2 + 1, p8, _, _, by omega, by go_num, HA2, ⟨by have h_ := HS12.out; simp only [List.length_append, List.length_singleton] at h_; exact h_⟩⟩
       case measure => simp [intOf]; omega
    ·have hjl : i2 = kw.length := by omega
     have hA := HA.out
     rw [hjl, List.drop_length] at hA
     simp only [txWrites, Option.some.injEq, Prod.mk.injEq] at hA
     obtain ⟨rfl, rfl⟩ := hA
     have hd1 : decide (i2 < kw.length) = false := decide_eq_false hlt
     clear HA hjl
     subst ek
     have hS := HS.out
     obtain ⟨A1, c1, rfl⟩ := Kd.R_slice hS.2.2.1.2.1
     obtain ⟨A2, c2, rfl⟩ := Kd.R_slice hS.2.2.1.2.2
     have ht0 := (blk_cell hS.1.2.1 0).trans rfl
     have ht1 := (blk_cell hS.1.2.1 1).trans rfl
     have ht2 := (blk_cell hS.1.2.1 2).trans rfl
     have ht3 := (blk_cell hS.1.2.1 3).trans rfl
     have hg0 := blk_frozen hS.1.2.2 0
     have hg1 := blk_frozen hS.1.2.2 1
     have hg2 := blk_frozen hS.1.2.2 2
     have hg3 := blk_frozen hS.1.2.2 3
     have hr0 := (blk_cell hS.1.2.2 0).trans rfl
     have hr1 := (blk_cell hS.1.2.2 1).trans rfl
     have hr2 := (blk_cell hS.1.2.2 2).trans rfl
     have hr3 := (blk_cell hS.1.2.2 3).trans rfl
     have HRes := Aside0.mk hS.result
     clear hS HS
     go_wp2_with fail
     (try simp only [Exit.inBlock, Exit.then])
     refine bodyPost_ret (results_cell_row rfl _ _ w.heap.size 30 _ (0, 0) _ rfl HRes.out.1 Try.underlying30 rfl (by kernel_rfl)) rfl ?_
     exact ⟨_, _, rfl, HRes.out.2⟩
end Go.Proofs.Ytnlfhbohcgjcbaa.PA
namespace Go.Proofs.Ytnlfhbohcgjcbaa.PA
open Go.RowKit Go.Proofs.YtnlfhbohcgjcbaaW.PrintWords Go.Proofs.YtnlfhbohcgjcbaaW.PrintLast Go.Proofs.YtnlfhbohcgjcbaaW.PrintMore Go.Proofs.Ytnlfhbohcgjcbaa.Q
set_option linter.unusedVariables false
set_option linter.unusedSimpArgs false
/-- What there is while it runs: the transaction at g, the reads' shards at gr, all shards at ga. -/
def TtSt (w W : World) (g gr ga : Nat) (a b : Int) (v2 v3 : Value) (rs : List (S24)) (ws : List (S27)) (f h : Int → Bool) : Prop :=
  (W.heap[g]? = some (.cells #[.int .i64 a, .int .i64 b, v2, v3] 30 (0, 0)) ∧ W.heap[gr]? = some (.cells #[.bool (f 0), .bool (f 1), .bool (f 2)] 39 (0, 0)) ∧ W.heap[ga]? = some (.cells #[.bool (h 0), .bool (h 1), .bool (h 2)] 39 (0, 0))) ∧ (gr ≠ ga ∧ w.heap.size ≤ gr ∧ w.heap.size ≤ ga ∧ g ≠ gr ∧ g ≠ ga) ∧ (Kd.R k24 24 W w.heap.size (fun _ => True) v2 rs ∧ Kd.R k27 27 W w.heap.size (fun _ => True) v3 ws) ∧ Below w.heap.size w W
section
variable {w W W1 : World} {g gr ga : Nat} {a b : Int} {v2 v3 : Value} {rs : List (S24)} {ws : List (S27)} {f h : Int → Bool}
theorem TtSt.below (s : TtSt w W g gr ga a b v2 v3 rs ws f h) (hw : Below W.heap.size W W1) : TtSt w W1 g gr ga a b v2 v3 rs ws f h := by
  obtain ⟨⟨i1, i2, i3⟩, hn, ⟨r1, r2⟩, hb⟩ := s
  exact ⟨⟨blk_below i1 hw, blk_below i2 hw, blk_below i3 hw⟩, hn, ⟨Kd.R_below r1 hw, Kd.R_below r2 hw⟩, below_step hb hw⟩
theorem TtSt.drew (s : TtSt w W g gr ga a b v2 v3 rs ws f h) : TtSt w W.drew g gr ga a b v2 v3 rs ws f h := s.below (below_drew1 (Below.refl _ _))
theorem TtSt.drewN (s : TtSt w W g gr ga a b v2 v3 rs ws f h) (m : Nat) : TtSt w (W.drewN m) g gr ga a b v2 v3 rs ws f h := s.below (pw_below_drewN (Below.refl _ _) m)
theorem TtSt.set_r (s : TtSt w W g gr ga a b v2 v3 rs ws f h) (x : Nat) (hx : x = 0 ∨ x = 1 ∨ x = 2) : TtSt w (W.setCell ⟨gr, x, none⟩ (.bool true)) g gr ga a b v2 v3 rs ws (fun i => f i || i == (x : Int)) h := by
  obtain ⟨⟨i1, i2, i3⟩, hn, ⟨r1, r2⟩, hb⟩ := s
  have q := blk_set i2 x (.bool true)
  refine ⟨⟨blk_far i1 hn.2.2.2.1 _, ?_, blk_far i3 (Ne.symm hn.1) _⟩, hn, ⟨Kd.R_mono (Kd.R_far (p := ⟨gr, x, none⟩) (Kd.R_types r1 i2 (by decide)) (fun _ hk => hk.2) _) (fun _ hk => hk.1), Kd.R_mono (Kd.R_far (p := ⟨gr, x, none⟩) (Kd.R_types r2 i2 (by decide)) (fun _ hk => hk.2) _) (fun _ hk => hk.1)⟩, below_set hb hn.2.1⟩
  rcases hx with rfl | rfl | rfl <;> simpa using q
theorem TtSt.set_a (s : TtSt w W g gr ga a b v2 v3 rs ws f h) (x : Nat) (hx : x = 0 ∨ x = 1 ∨ x = 2) : TtSt w (W.setCell ⟨ga, x, none⟩ (.bool true)) g gr ga a b v2 v3 rs ws f (fun i => h i || i == (x : Int)) := by
  obtain ⟨⟨i1, i2, i3⟩, hn, ⟨r1, r2⟩, hb⟩ := s
  have q := blk_set i3 x (.bool true)
  refine ⟨⟨blk_far i1 hn.2.2.2.2 _, blk_far i2 hn.1 _, ?_⟩, hn, ⟨Kd.R_mono (Kd.R_far (p := ⟨ga, x, none⟩) (Kd.R_types r1 i3 (by decide)) (fun _ hk => hk.2) _) (fun _ hk => hk.1), Kd.R_mono (Kd.R_far (p := ⟨ga, x, none⟩) (Kd.R_types r2 i3 (by decide)) (fun _ hk => hk.2) _) (fun _ hk => hk.1)⟩, below_set hb hn.2.2.1⟩
  rcases hx with rfl | rfl | rfl <;> simpa using q
theorem TtSt.txn (s : TtSt w W g gr ga a b v2 v3 rs ws f h) : W.cell? ⟨g, 0, none⟩ = some (.int .i64 a) ∧ W.cell? ⟨g, 1, none⟩ = some (.int .i64 b) ∧ W.cell? ⟨g, 2, none⟩ = some v2 ∧ W.cell? ⟨g, 3, none⟩ = some v3 := by
  refine ⟨?_, ?_, ?_, ?_⟩ <;> (rw [blk_cell s.1.1]; rfl)
end
theorem TtSt.shard {w W : World} {g gr ga : Nat} {a b : Int} {v2 v3 : Value} {rs : List (S24)} {ws : List (S27)} {f h : Int → Bool} {k : Nat} {s0 : ByteArray} {n x : Int} (s : TtSt w W g gr ga a b v2 v3 rs ws f h) (hf : diwanref1_ShardOf.f k s0 n = some x) :
    Calls Try.prog 23 #[.string s0, .int .i64 n] W fun e w' => e = .returned (.int .i64 x) ∧ TtSt w w' g gr ga a b v2 v3 rs ws f h := by
  refine (diwanref1_ShardOf.calls k s0 n x W hf).mono ?_
  rintro e w' ⟨rfl, nd, rfl⟩
  exact ⟨rfl, s.drewN nd⟩
theorem TtSt.start {w w3 : World} {a b : Int} {v2 v3 : Value} {rs : List (S24)} {ws : List (S27)} (hb : Below w.heap.size w w3) (h2 : Kd.R k24 24 w3 w.heap.size (fun _ => True) v2 rs) (h3 : Kd.R k27 27 w3 w.heap.size (fun _ => True) v3 ws) :
    TtSt w (((w3.alloc (.cells #[.int .i64 a, .int .i64 b, v2, v3] 30)).alloc (.cells #[.bool false, .bool false, .bool false] 39)).alloc (.cells #[.bool false, .bool false, .bool false] 39)) w3.heap.size (w3.heap.size + 1) (w3.heap.size + 1 + 1) a b v2 v3 rs ws (fun _ => false) (fun _ => false) := by
  have hs := hb.size
  refine ⟨⟨blk_alloc (blk_alloc (heap_alloc_new w3 _) _) _, blk_alloc (by simpa using heap_alloc_new (w3.alloc (.cells #[.int .i64 a, .int .i64 b, v2, v3] 30)) (.cells #[.bool false, .bool false, .bool false] 39)) _, by simpa using heap_alloc_new ((w3.alloc (.cells #[.int .i64 a, .int .i64 b, v2, v3] 30)).alloc (.cells #[.bool false, .bool false, .bool false] 39)) (.cells #[.bool false, .bool false, .bool false] 39)⟩, ⟨by omega, by omega, by omega, by omega, by omega⟩, ⟨Kd.R_alloc (Kd.R_alloc (Kd.R_alloc h2 _) _) _, Kd.R_alloc (Kd.R_alloc (Kd.R_alloc h3 _) _) _⟩, below_alloc (below_alloc (below_alloc hb _) _) _⟩
/-- The reads' shards; all. -/
def shR (K : Nat) (rs : List (S24)) (x : Int) : Bool := decide (x ∈ rs.map (fun r => shardOf r.f0 (K : Int)))
def shA (K : Nat) (rs : List (S24)) (ws : List (S27)) (x : Int) : Bool := decide (x ∈ rs.map (fun r => shardOf r.f0 (K : Int)) ++ ws.map (fun r => shardOf r.f0 (K : Int)))
theorem shR_succ (K : Nat) (rs : List (S24)) (z : S24) (j : Nat) (h : j < rs.length) : shR K (rs.take (j + 1)) = fun i => shR K (rs.take j) i || i == shardOf (rs.getD j z).f0 (K : Int) := by
  funext i
  unfold shR
  rw [take_getD rs z j h, List.map_append, Bool.eq_iff_iff]
  simp only [Bool.or_eq_true, beq_iff_eq, decide_eq_true_eq, List.mem_append, List.map_cons, List.map_nil, List.mem_singleton]
theorem shA_succ (K : Nat) (rs : List (S24)) (ws : List (S27)) (z : S27) (j : Nat) (h : j < ws.length) : shA K rs (ws.take (j + 1)) = fun i => shA K rs (ws.take j) i || i == shardOf (ws.getD j z).f0 (K : Int) := by
  funext i
  unfold shA
  rw [take_getD ws z j h, List.map_append, Bool.eq_iff_iff]
  simp only [Bool.or_eq_true, beq_iff_eq, decide_eq_true_eq, List.mem_append, List.map_cons, List.map_nil, List.mem_singleton, or_assoc]
theorem shA_nil (K : Nat) (rs : List (S24)) : shA K rs [] = shR K rs := by
  funext i
  unfold shA shR
  rw [List.map_nil, List.append_nil]
theorem rd_mem (rs : List (S24)) (j : Nat) (h : j < rs.length) : rd_T24 rs (j : Int) ∈ rs := by
  unfold rd_T24
  rw [Int.toNat_natCast]
  exact getD_mem _ _ _ h
theorem rd_memw (rs : List (S27)) (j : Nat) (h : j < rs.length) : rd_T27 rs (j : Int) ∈ rs := by
  unfold rd_T27
  rw [Int.toNat_natCast]
  exact getD_mem _ _ _ h
theorem six_size : ∀ s ∈ six, s.size ≤ 8 := by decide
theorem _root_.Go.Proofs.Ytnlfhbohcgjcbaa.Q.MadeT.rkey {most a b : Int} {rs : List (S24)} {ws : List (S27)} (h : MadeT most a b rs ws) (r : S24) (hr : r ∈ rs) : r.f0.size < 9223372036854775807 := by
  have h1 := h.rk.subset (List.mem_map_of_mem (f := fun (x : S24) => x.f0) hr)
  have h2 := six_size _ h1
  omega
theorem _root_.Go.Proofs.Ytnlfhbohcgjcbaa.Q.MadeT.wkey {most a b : Int} {rs : List (S24)} {ws : List (S27)} (h : MadeT most a b rs ws) (r : S27) (hr : r ∈ ws) : r.f0.size < 9223372036854775807 := by
  have h1 := h.wk.subset (List.mem_map_of_mem (f := fun (x : S27) => x.f0) hr)
  have h2 := six_size _ h1
  omega
theorem shA_out (K : Nat) (rs : List (S24)) (ws : List (S27)) (hK : 1 ≤ K) (x : Int) (h : x < 0 ∨ (K : Int) ≤ x) : shA K rs ws x = false := by
  refine decide_eq_false fun hm => ?_
  have hx : 0 ≤ x ∧ x < (K : Int) := by
    rcases List.mem_append.1 hm with hm | hm <;> obtain ⟨r, _, rfl⟩ := List.mem_map.1 hm <;> exact shardOf_range _ _ (by omega)
  omega
theorem touchesE {a b : Int} {rs : List (S24)} {ws : List (S27)} (h : MadeT 5 a b rs ws) (K : Nat) (hK : K ≤ 3) (x : Int) : ∃ k, txn_Touches.f k a b rs ws x (K : Int) = some (shA K rs ws x) :=
  (txn_Touches_f a b rs ws x (K : Int) (by omega) (by have := h.rl; omega) (by have := h.wl; omega) (fun r hr => h.rkey r hr) (fun r hr => h.wkey r hr)).out
theorem TtSt.touch {w W : World} {g gr ga : Nat} {a b : Int} {A2 A3 : Option Addr} {c2 c3 : Nat} {rs : List (S24)} {ws : List (S27)} {f h : Int → Bool} {k : Nat} {x n : Int} {r : Bool} (s : TtSt w W g gr ga a b (.slice A2 rs.length c2) (.slice A3 ws.length c3) rs ws f h) (hf : txn_Touches.f k a b rs ws x n = some r) :
    Calls Try.prog 25 #[.agg #[.int .i64 a, .int .i64 b, .slice A2 rs.length c2, .slice A3 ws.length c3], .int .i64 x, .int .i64 n] W fun e w' => e = .returned (.bool r) ∧ TtSt w w' g gr ga a b (.slice A2 rs.length c2) (.slice A3 ws.length c3) rs ws f h ∧ Below W.heap.size W w' := by
  refine (txn_Touches.calls k a b A2 c2 rs A3 c3 ws x n r W (Kd.R_reads' s.2.2.1.1).2.2 (Kd.R_reads' s.2.2.1.1).2.1 (Kd.R_reads' s.2.2.1.2).2.2 (Kd.R_reads' s.2.2.1.2).2.1 hf).mono ?_
  rintro e w' ⟨rfl, hb⟩
  exact ⟨rfl, s.below hb, hb⟩
theorem upTo_len_true (s : Nat) (p : Int → Bool) (h : p (s : Int) = true) : (upTo (s + 1) p).length = (upTo s p).length + 1 := by
  rw [upTo_succ, if_pos h, List.length_append, List.length_singleton]
theorem upTo_len_false (s : Nat) (p : Int → Bool) (h : p (s : Int) = false) : (upTo (s + 1) p).length = (upTo s p).length := by
  rw [upTo_succ, if_neg (by rw [h]; decide), List.append_nil]
theorem upTo_pre (s : Nat) (p : Int → Bool) : ∀ K : Nat, s ≤ K → ∃ r, upTo K p = upTo s p ++ r
  | 0, h => by obtain rfl : s = 0 := by omega
               exact ⟨[], by rw [List.append_nil]⟩
  | K + 1, h => by
    by_cases e : s = K + 1
    · subst e
      exact ⟨[], by rw [List.append_nil]⟩
    · obtain ⟨r, hr⟩ := upTo_pre s p K (by omega)
      rw [upTo_succ, hr, List.append_assoc]
      exact ⟨_, rfl⟩
theorem upTo_at (s K : Nat) (p : Int → Bool) (h : s < K) (hp : p (s : Int) = true) : (upTo s p).length < (upTo K p).length ∧ rd (upTo K p) ((upTo s p).length : Int) = (s : Int) := by
  obtain ⟨r, hr⟩ := upTo_pre (s + 1) p K (by omega)
  rw [upTo_succ, if_pos hp, List.append_assoc] at hr
  rw [hr]
  refine ⟨by simp, ?_⟩
  rw [rd_nat]
  simp
theorem upTo_small (s : Nat) (p : Int → Bool) : (upTo s p).length ≤ s := by
  unfold upTo
  exact Nat.le_trans (List.length_filter_le _ _) (by simp)
theorem begun5_true : diwanlaw5_begun.f 40 = some true := by kernel_rfl
set_option maxHeartbeats 8000000 in
set_option maxRecDepth 100000 in
theorem diwanlaw5_TxnTouch.walk0 (A0 : Option Addr) (c0 : Nat) (l0 : List Int) (n : Int) (w : World) (hr0 : Kd.C (Kd.int .u8) w A0 l0.length l0) (hc0 : l0.length ≤ c0) (hwf : ∀ x ∈ l0, (Lit.int .u8 x).wf = true) (hn : 0 ≤ n ∧ n ≤ 255) :
    Calls Try.prog 4 #[.slice A0 l0.length c0, .int .u8 n] w fun e w' => e = .returned (.bool true) ∧ Below w.heap.size w w' := by
  have HR0 := Aside0.mk hr0
  have HC0 := Aside0.mk hc0
  clear hr0 hc0
  have hu30 := Try.underlying30
  by_cases c7 : (l0.length : Int) > 30
  · have c7b0 : decide (30 < (l0.length : Int)) = true := decide_eq_true c7
    have c7b1 : decide (30 < l0.length) = true := decide_eq_true (by omega)
    clear c7
    go_enter Try.func4, Try.ntmps4
    go_wp2_with fail
    refine calls_of_args (args' := #[]) (by rfl) ?_
    refine (diwanlaw5_begun.calls 40 true w begun5_true).mono ?_
    rintro e w1 ⟨rfl, hb⟩
    have HB := Aside0.mk hb
    clear hb
    go_wp2_with fail
    go_ret
    exact ⟨rfl, HB.out⟩
  have c7b0 : decide (30 < (l0.length : Int)) = false := decide_eq_false c7
  have c7b1 : decide (30 < l0.length) = false := decide_eq_false (by omega)
  have hl : Aside0 (l0.length ≤ 30) := ⟨by omega⟩
  clear c7
  have HW := Aside0.mk hwf
  clear hwf
  have HN := Aside0.mk hn
  clear hn
  go_enter Try.func4, Try.ntmps4
  go_wp2_with fail
  refine calls_of_args (args' := #[]) (by rfl) ?_
  refine (diwanlaw5_begun.calls 40 true w begun5_true).mono ?_
  rintro e w1 ⟨rfl, hb⟩
  have HB := Aside0.mk hb
  replace HR0 := Aside0.mk (Kd.C_below HR0.out hb)
  clear hb
  go_wp2_with fail
  obtain ⟨K, hK, hk1, hk3⟩ : ∃ K : Nat, wrap64 (1 + wrap64 (n.tmod 3)) = (K : Int) ∧ 1 ≤ K ∧ K ≤ 3 := by
    have h1 : 0 ≤ n.tmod 3 ∧ n.tmod 3 < 3 := by
      rw [Int.tmod_eq_emod_of_nonneg HN.out.1]
      omega
    refine ⟨(1 + n.tmod 3).toNat, ?_, by omega, by omega⟩
    rw [wrap_of (n.tmod 3) (by omega) (by omega), wrap_of (1 + n.tmod 3) (by omega) (by omega)]
    omega
  simp only [hK]
  have HK1 := Aside0.mk hk1
  have HK3 := Aside0.mk hk3
  clear hK hk1 hk3 c7b0 c7b1
  refine calls_of_args (args' := #[.slice A0 l0.length c0]) (by rfl) ?_
  refine (diwanplay_Made.calls A0 c0 l0 l0 0 w1 w1 (Below.refl _ _) HR0.out HC0.out rfl).mono ?_
  rintro e w2 ⟨gp, rfl, hI, hb1, hb⟩
  have HBw := HB
  replace HB := Aside0.mk (below_step HB.out hb)
  have HI := Aside0.mk hI
  have HB1 := Aside0.mk hb1
  clear hI hb1 hb HR0
  obtain ⟨a, b, rs, ws, pos', hT, hM, -⟩ := Txn_f (OkP_made HW.out (by have := hl.out; omega)) 5 (by omega)
  obtain ⟨k2, hT⟩ := hT.out
  have HT := Aside0.mk hT
  have HM := Aside0.mk hM
  clear hT hM
  go_wp2_with fail
  refine calls_of_args (args' := #[.pointer (some ⟨gp, 0, none⟩), .int .i64 5]) (by rfl) ?_
  refine (diwanplay_Picks_Txn.calls k2 gp l0 0 5 a b rs ws pos' w1 w2 HI.out HB1.out HT.out).mono ?_
  rintro e w3 ⟨v2, v3, rfl, h2, h3, hI, hb1, hk⟩
  have HR2 := Aside0.mk (Kd.R_lower h2 HB.out.size)
  have HR3 := Aside0.mk (Kd.R_lower h3 HB.out.size)
  replace HB := Aside0.mk (below_step HBw.out hb1)
  clear h2 h3 hI hb1 hk HI HB1 HBw HT hT
  obtain ⟨A2, c2, rfl⟩ := Kd.R_slice HR2.out
  obtain ⟨A3, c3, rfl⟩ := Kd.R_slice HR3.out
  go_wp2_with fail
  have HS := Aside0.mk (TtSt.start (a := a) (b := b) HB.out HR2.out HR3.out)
  clear HB HR2 HR3 HW HN HC0 hl
  generalize ((w3.alloc (.cells #[.int .i64 a, .int .i64 b, .slice A2 rs.length c2, .slice A3 ws.length c3] 30)).alloc (.cells #[.bool false, .bool false, .bool false] 39)).alloc (.cells #[.bool false, .bool false, .bool false] 39) = W at HS ⊢
  generalize w3.heap.size + 1 + 1 = ga at HS ⊢
  generalize w3.heap.size + 1 = gr at HS ⊢
  generalize w3.heap.size = g at HS ⊢
  go_loopw [9] (fun v9 w' => ∃ j : Nat, j ≤ rs.length ∧ v9 = .int .i64 j ∧ Aside0 (TtSt w w' g gr ga a b (.slice A2 rs.length c2) (.slice A3 ws.length c3) rs ws (shR K (rs.take j)) (shR K (rs.take j)))) (fun v9 _ => rs.length - (intOf v9).toNat)
  case atStart => exact ⟨0, Nat.zero_le _, rfl, HS⟩
  case round =>
    clear HS
    obtain ⟨j, hj, rfl, HS⟩ := hrel
    have hm : rs.length ≤ 3 := HM.out.rl
    obtain ⟨q0, q1, q2, q3⟩ := HS.out.txn
    by_cases hlt : j < rs.length
    · have p1 : 0 ≤ ((j : Int)) := by omega
      have p2 : ((j : Int)) < (rs.length : Int) := by omega
      obtain ⟨ad, e1, hx0, hx1, hx2, hx3⟩ := at_T24 (Kd.R_reads' HS.out.2.2.1.1).2.2 (j : Int) p1 p2
      cases e1
      clear hx1 hx2 hx3
      have hd : decide (j < rs.length) = true := decide_eq_true hlt
      have hd2 : decide ((j : Int) < (rs.length : Int)) = true := decide_eq_true p2
      obtain ⟨k5, hx⟩ := (ShardOf_f (rd_T24 rs (j : Int)).f0 (HM.out.rkey _ (rd_mem rs j hlt)) (K : Int) (by have := HK3.out; omega)).out
      obtain ⟨xn, hxe, hx3⟩ : ∃ xn : Nat, shardOf (rd_T24 rs (j : Int)).f0 (K : Int) = (xn : Int) ∧ (xn = 0 ∨ xn = 1 ∨ xn = 2) := by
        have h1 := shardOf_range (rd_T24 rs (j : Int)).f0 (K : Int) (by have := HK1.out; omega)
        have h2 := HK3.out
        exact ⟨(shardOf (rd_T24 rs (j : Int)).f0 (K : Int)).toNat, by omega, by omega⟩
      rw [hxe] at hx
      have hsucc := shR_succ K rs z24 j hlt
      have HSU : Aside0 (shR K (rs.take (j + 1)) = fun i => shR K (rs.take j) i || i == (xn : Int)) := ⟨by rw [hsucc]; unfold rd_T24 at hxe; rw [Int.toNat_natCast] at hxe; rw [hxe]⟩
      have HX := Aside0.mk hx
      clear hx hxe hsucc
      obtain ⟨key, hke⟩ : ∃ key, (rd_T24 rs (j : Int)).f0 = key := ⟨_, rfl⟩
      rw [hke] at HX hx0
      have hkey : Aside0 (∀ (W : World) (f h : Int → Bool), TtSt w W g gr ga a b (.slice (some ad) rs.length c2) (.slice A3 ws.length c3) rs ws f h → W.cell? ⟨g, 2, none⟩ = some (.slice (some ad) rs.length c2) ∧ W.cell? (ad.add (j * 4)) = some (.string key)) := ⟨fun W f h s => by
        refine ⟨s.txn.2.2.1, ?_⟩
        obtain ⟨ad', e1, hy, _⟩ := at_T24 (Kd.R_reads' s.2.2.1.1).2.2 (j : Int) p1 p2
        cases e1
        rw [hke] at hy
        simpa using hy⟩
      have hne := HS.out.2.1.1
      have hne' := Ne.symm hne
      have HSd := Aside0.mk HS.out.drew
      clear hke
      go_wp2_with fail
      rcases hx3 with rfl | rfl | rfl
      · go_region_held3 (fun w' => w'.cell? ⟨g, 2, none⟩ = some (.slice (some ad) rs.length c2) ∧ w'.cell? (ad.add (j * 4)) = some (.string key))
          (first | exact hkey.out _ _ _ (by repeat (first | with_reducible exact HSd.out | with_reducible exact HS4.out | with_reducible exact HS5.out | with_reducible exact HS6.out | with_reducible exact HS7.out)))
          (first | (go_at_call 23; (with_reducible refine (TtSt.shard HSd.out HX.out).mono ?_); rintro e w4 ⟨rfl, hS4⟩; have HS4 := Aside0.mk hS4; clear hS4) | (go_at_call 23; (with_reducible refine (TtSt.shard HS4.out HX.out).mono ?_); rintro e w5 ⟨rfl, hS5⟩; have HS5 := Aside0.mk hS5; have HS6 := Aside0.mk (TtSt.set_r hS5 0 (by decide)); have HS7 := Aside0.mk (TtSt.set_a HS6.out 0 (by decide)); have hf1 := blk_frozen hS5.1.2.1 0; have hf2 := blk_frozen hS5.1.2.2 0; have hc1 := (blk_cell hS5.1.2.1 0).trans rfl; have hc2 := (blk_cell hS5.1.2.2 0).trans rfl; clear hS5))
        go_wp2_with fail
        go_roundw
        case rel => exact ⟨j + 1, by omega, by go_num, ⟨by rw [HSU.out]; exact HS7.out⟩⟩
        case measure => simp [intOf]; omega
      · go_region_held3 (fun w' => w'.cell? ⟨g, 2, none⟩ = some (.slice (some ad) rs.length c2) ∧ w'.cell? (ad.add (j * 4)) = some (.string key))
          (first | exact hkey.out _ _ _ (by repeat (first | with_reducible exact HSd.out | with_reducible exact HS4.out | with_reducible exact HS5.out | with_reducible exact HS6.out | with_reducible exact HS7.out)))
          (first | (go_at_call 23; (with_reducible refine (TtSt.shard HSd.out HX.out).mono ?_); rintro e w4 ⟨rfl, hS4⟩; have HS4 := Aside0.mk hS4; clear hS4) | (go_at_call 23; (with_reducible refine (TtSt.shard HS4.out HX.out).mono ?_); rintro e w5 ⟨rfl, hS5⟩; have HS5 := Aside0.mk hS5; have HS6 := Aside0.mk (TtSt.set_r hS5 1 (by decide)); have HS7 := Aside0.mk (TtSt.set_a HS6.out 1 (by decide)); have hf1 := blk_frozen hS5.1.2.1 1; have hf2 := blk_frozen hS5.1.2.2 1; have hc1 := (blk_cell hS5.1.2.1 1).trans rfl; have hc2 := (blk_cell hS5.1.2.2 1).trans rfl; clear hS5))
        go_wp2_with fail
        go_roundw
        case rel => exact ⟨j + 1, by omega, by go_num, ⟨by rw [HSU.out]; exact HS7.out⟩⟩
        case measure => simp [intOf]; omega
      · go_region_held3 (fun w' => w'.cell? ⟨g, 2, none⟩ = some (.slice (some ad) rs.length c2) ∧ w'.cell? (ad.add (j * 4)) = some (.string key))
          (first | exact hkey.out _ _ _ (by repeat (first | with_reducible exact HSd.out | with_reducible exact HS4.out | with_reducible exact HS5.out | with_reducible exact HS6.out | with_reducible exact HS7.out)))
          (first | (go_at_call 23; (with_reducible refine (TtSt.shard HSd.out HX.out).mono ?_); rintro e w4 ⟨rfl, hS4⟩; have HS4 := Aside0.mk hS4; clear hS4) | (go_at_call 23; (with_reducible refine (TtSt.shard HS4.out HX.out).mono ?_); rintro e w5 ⟨rfl, hS5⟩; have HS5 := Aside0.mk hS5; have HS6 := Aside0.mk (TtSt.set_r hS5 2 (by decide)); have HS7 := Aside0.mk (TtSt.set_a HS6.out 2 (by decide)); have hf1 := blk_frozen hS5.1.2.1 2; have hf2 := blk_frozen hS5.1.2.2 2; have hc1 := (blk_cell hS5.1.2.1 2).trans rfl; have hc2 := (blk_cell hS5.1.2.2 2).trans rfl; clear hS5))
        go_wp2_with fail
        go_roundw
        case rel => exact ⟨j + 1, by omega, by go_num, ⟨by rw [HSU.out]; exact HS7.out⟩⟩
        case measure => simp [intOf]; omega
    · have hjl : j = rs.length := by omega
      subst hjl
      rw [List.take_length] at HS
      have HS1 : Aside0 (TtSt w wr g gr ga a b (.slice A2 rs.length c2) (.slice A3 ws.length c3) rs ws (shR K rs) (shA K rs [])) := ⟨by rw [shA_nil]; exact HS.out⟩
      have hd : decide (rs.length < rs.length) = false := decide_eq_false (Nat.lt_irrefl _)
      have hd2 : decide ((rs.length : Int) < (rs.length : Int)) = false := decide_eq_false (by omega)
      clear HS
      go_wp2_with fail
      clear hd hd2 q0 q1 q2 q3 hj hlt hm
      go_loopw [10] (fun v10 w' => ∃ j : Nat, j ≤ ws.length ∧ v10 = .int .i64 j ∧ Aside0 (TtSt w w' g gr ga a b (.slice A2 rs.length c2) (.slice A3 ws.length c3) rs ws (shR K rs) (shA K rs (ws.take j)))) (fun v10 _ => ws.length - (intOf v10).toNat)
      case atStart => exact ⟨0, Nat.zero_le _, rfl, HS1⟩
      case round =>
        clear HS1
        obtain ⟨j, hj, rfl, HS⟩ := hrel
        have hm : ws.length ≤ 3 := HM.out.wl
        obtain ⟨q0, q1, q2, q3⟩ := HS.out.txn
        by_cases hlt : j < ws.length
        · have p1 : 0 ≤ ((j : Int)) := by omega
          have p2 : ((j : Int)) < (ws.length : Int) := by omega
          obtain ⟨ad, e1, hx0, hx1, hx2⟩ := at_T27 (Kd.R_reads' HS.out.2.2.1.2).2.2 (j : Int) p1 p2
          cases e1
          clear hx1 hx2
          have hd : decide (j < ws.length) = true := decide_eq_true hlt
          have hd2 : decide ((j : Int) < (ws.length : Int)) = true := decide_eq_true p2
          obtain ⟨k5, hx⟩ := (ShardOf_f (rd_T27 ws (j : Int)).f0 (HM.out.wkey _ (rd_memw ws j hlt)) (K : Int) (by have := HK3.out; omega)).out
          obtain ⟨xn, hxe, hx3⟩ : ∃ xn : Nat, shardOf (rd_T27 ws (j : Int)).f0 (K : Int) = (xn : Int) ∧ (xn = 0 ∨ xn = 1 ∨ xn = 2) := by
            have h1 := shardOf_range (rd_T27 ws (j : Int)).f0 (K : Int) (by have := HK1.out; omega)
            have h2 := HK3.out
            exact ⟨(shardOf (rd_T27 ws (j : Int)).f0 (K : Int)).toNat, by omega, by omega⟩
          rw [hxe] at hx
          have hsucc := shA_succ K rs ws z27 j hlt
          have HSU : Aside0 (shA K rs (ws.take (j + 1)) = fun i => shA K rs (ws.take j) i || i == (xn : Int)) := ⟨by rw [hsucc]; unfold rd_T27 at hxe; rw [Int.toNat_natCast] at hxe; rw [hxe]⟩
          have HX := Aside0.mk hx
          clear hx hxe hsucc
          obtain ⟨key, hke⟩ : ∃ key, (rd_T27 ws (j : Int)).f0 = key := ⟨_, rfl⟩
          rw [hke] at HX hx0
          simp only [Int.toNat_natCast] at hx0
          clear hke
          go_wp2_with fail
          refine (TtSt.shard HS.out HX.out).mono ?_
          rintro e w4 ⟨rfl, hS4⟩
          have HS4 := Aside0.mk hS4
          clear hS4 q0 q1 q2 q3 hx0 HS
          rcases hx3 with rfl | rfl | rfl
          · have hf := blk_frozen HS4.out.1.2.2 0
            have hc := (blk_cell HS4.out.1.2.2 0).trans rfl
            go_wp2_with fail
            go_roundw
            case rel => exact ⟨j + 1, by omega, by go_num, ⟨by rw [HSU.out]; exact HS4.out.set_a 0 (by decide)⟩⟩
            case measure => simp [intOf]; omega
          · have hf := blk_frozen HS4.out.1.2.2 1
            have hc := (blk_cell HS4.out.1.2.2 1).trans rfl
            go_wp2_with fail
            go_roundw
            case rel => exact ⟨j + 1, by omega, by go_num, ⟨by rw [HSU.out]; exact HS4.out.set_a 1 (by decide)⟩⟩
            case measure => simp [intOf]; omega
          · have hf := blk_frozen HS4.out.1.2.2 2
            have hc := (blk_cell HS4.out.1.2.2 2).trans rfl
            go_wp2_with fail
            go_roundw
            case rel => exact ⟨j + 1, by omega, by go_num, ⟨by rw [HSU.out]; exact HS4.out.set_a 2 (by decide)⟩⟩
            case measure => simp [intOf]; omega
        · have hjl : j = ws.length := by omega
          subst hjl
          rw [List.take_length] at HS
          have hd : decide (ws.length < ws.length) = false := decide_eq_false (Nat.lt_irrefl _)
          have hd2 : decide ((ws.length : Int) < (ws.length : Int)) = false := decide_eq_false (by omega)
          go_wp2_with fail
          refine calls_of_args (args' := #[.agg #[.int .i64 a, .int .i64 b, .slice A2 rs.length c2, .slice A3 ws.length c3], .int .i64 (K : Int)]) (by rfl) ?_
          obtain ⟨k6, hk6⟩ := (txn_Reads_f a b rs ws K HK1.out (by have := HK3.out; omega) (by have := HM.out.rl; omega) (by omega) (fun r hr => HM.out.rkey r hr)).out
          refine (txn_Reads.calls k6 a b A2 c2 rs A3 c3 ws (K : Int) _ wr (Kd.R_reads' HS.out.2.2.1.1).2.2 (Kd.R_reads' HS.out.2.2.1.1).2.1 (Kd.R_reads' HS.out.2.2.1.2).2.2 (Kd.R_reads' HS.out.2.2.1.2).2.1 hk6).mono ?_
          rintro e w5 ⟨vl, rfl, ho, hb⟩
          change Kd.R (Kd.int .i64) 3 w5 wr.heap.size (fun _ => True) vl (upTo K (shR K rs)) at ho
          obtain ⟨L, hL⟩ : ∃ L, upTo K (shR K rs) = L := ⟨_, rfl⟩
          rw [hL] at ho
          obtain ⟨AL, cL, rfl⟩ := Kd.R_slice ho
          have HO := Aside0.mk (Kd.R_lower ho (by have := HS.out.2.2.2.size; exact this))
          have HS5 := Aside0.mk (HS.out.below hb)
          have HLL := Aside0.mk hL
          clear HS ho hb hL hk6 hd hd2 q0 q1 q2 q3 hj hlt hm
          go_wp2_with fail
          go_loopw [12, 13] (fun v12 v13 w' => ∃ s : Nat, s ≤ K ∧ v12 = .int .i64 ((upTo s (shR K rs)).length : Int) ∧ v13 = .int .i64 s ∧ Aside0 (TtSt w w' g gr ga a b (.slice A2 rs.length c2) (.slice A3 ws.length c3) rs ws (shR K rs) (shA K rs ws)) ∧ Aside0 (Kd.R (Kd.int .i64) 3 w' w.heap.size (fun _ => True) (.slice AL L.length cL) L)) (fun _ v13 _ => K - (intOf v13).toNat)
          case atStart => exact ⟨0, Nat.zero_le _, rfl, rfl, HS5, HO⟩
          case round =>
            clear HS5 HO
            obtain ⟨s, hs, rfl, rfl, HS, HO⟩ := hrel
            obtain ⟨q0, q1, q2, q3⟩ := HS.out.txn
            by_cases hlt : s < K
            · have hd : decide (s < K) = true := decide_eq_true hlt
              have hd2 : decide ((s : Int) < (K : Int)) = true := decide_eq_true (by omega)
              have HSd := Aside0.mk HS.out.drew
              go_wp2_with fail
              have hs3 : s = 0 ∨ s = 1 ∨ s = 2 := by have := HK3.out; omega
              clear hd hd2
              rcases hs3 with rfl | rfl | rfl
              · have hcr := (fun (W : World) (q : TtSt w W g gr ga a b (.slice A2 rs.length c2) (.slice A3 ws.length c3) rs ws (shR K rs) (shA K rs ws)) => (blk_cell q.1.2.1 0).trans (rfl : _ = some (Value.bool (shR K rs 0))))
                have HCR := Aside0.mk hcr
                clear hcr
                obtain ⟨k7, hk7⟩ := touchesE HM.out K HK3.out 0
                have HTo := Aside0.mk hk7
                clear hk7
                have hbb : (shA K rs ws 0 != shA K rs ws 0) = false := by simp
                go_region_held3 (fun w' => w'.cell? ⟨g, 0, none⟩ = some (.int .i64 a) ∧ w'.cell? ⟨g, 1, none⟩ = some (.int .i64 b) ∧ w'.cell? ⟨g, 2, none⟩ = some (.slice A2 rs.length c2) ∧ w'.cell? ⟨g, 3, none⟩ = some (.slice A3 ws.length c3) ∧ w'.cell? ⟨ga, 0, none⟩ = some (.bool (shA K rs ws 0)))
                  (first | exact (fun W (q : TtSt w W g gr ga a b (.slice A2 rs.length c2) (.slice A3 ws.length c3) rs ws (shR K rs) (shA K rs ws)) => (⟨q.txn.1, q.txn.2.1, q.txn.2.2.1, q.txn.2.2.2, (blk_cell q.1.2.2 0).trans rfl⟩ : _ ∧ _ ∧ _ ∧ _ ∧ _)) _ (by (first | with_reducible exact HSd.out | with_reducible exact HS4.out)))
                  (first | (go_at_call 25; (with_reducible refine (TtSt.touch HSd.out HTo.out).mono ?_); rintro e w4 ⟨rfl, hS4, hb4⟩; have HS4 := Aside0.mk hS4; have HO4 := Aside0.mk (Kd.R_below (Kd.R_drew HO.out) hb4); clear hS4 hb4))
                all_goals (
                  have hcr := HCR.out _ HS4.out
                  clear hbb HSd HO HTo q0 q1 q2 q3
                  by_cases hrb : shR K rs 0 = true
                  · rw [hrb] at hcr
                    obtain ⟨ht1, ht2⟩ := upTo_at 0 K (shR K rs) hlt hrb
                    have hln := upTo_len_true 0 (shR K rs) hrb
                    have hts := upTo_small 0 (shR K rs)
                    rw [HLL.out] at ht1 ht2
                    obtain ⟨t, ht⟩ : ∃ t, (upTo 0 (shR K rs)).length = t := ⟨_, rfl⟩
                    rw [ht] at ht1 ht2 hln hts
                    rw [ht]
                    have p1 : 0 ≤ (t : Int) := by omega
                    have p2 : (t : Int) < (L.length : Int) := by omega
                    obtain ⟨adL, eL, hxl⟩ := Kd.at_int (Kd.R_reads' HO4.out).2.2 (t : Int) p1 p2
                    cases eL
                    rw [ht2] at hxl
                    simp only [Int.toNat_natCast] at hxl
                    have hg1 : decide ((L.length : Int) ≤ (t : Int)) = false := decide_eq_false (by omega)
                    have hg2 : decide (L.length ≤ t) = false := decide_eq_false (by omega)
                    have HLN := Aside0.mk hln
                    clear hln ht ht2 hrb
                    go_wp2_with fail
                    go_roundw
                    case rel => exact ⟨0 + 1, by omega, by rw [HLN.out]; go_num, by go_num, HS4, HO4⟩
                    case measure => simp [intOf]; omega
                  · have hrf : shR K rs 0 = false := by simpa using hrb
                    rw [hrf] at hcr
                    have HLN := Aside0.mk (upTo_len_false 0 (shR K rs) hrf)
                    clear hrf hrb
                    go_wp2_with fail
                    go_roundw
                    case rel => exact ⟨0 + 1, by omega, by rw [HLN.out], by go_num, HS4, HO4⟩
                    case measure => simp [intOf]; omega)
              · have hcr := (fun (W : World) (q : TtSt w W g gr ga a b (.slice A2 rs.length c2) (.slice A3 ws.length c3) rs ws (shR K rs) (shA K rs ws)) => (blk_cell q.1.2.1 1).trans (rfl : _ = some (Value.bool (shR K rs 1))))
                have HCR := Aside0.mk hcr
                clear hcr
                obtain ⟨k7, hk7⟩ := touchesE HM.out K HK3.out 1
                have HTo := Aside0.mk hk7
                clear hk7
                have hbb : (shA K rs ws 1 != shA K rs ws 1) = false := by simp
                go_region_held3 (fun w' => w'.cell? ⟨g, 0, none⟩ = some (.int .i64 a) ∧ w'.cell? ⟨g, 1, none⟩ = some (.int .i64 b) ∧ w'.cell? ⟨g, 2, none⟩ = some (.slice A2 rs.length c2) ∧ w'.cell? ⟨g, 3, none⟩ = some (.slice A3 ws.length c3) ∧ w'.cell? ⟨ga, 1, none⟩ = some (.bool (shA K rs ws 1)))
                  (first | exact (fun W (q : TtSt w W g gr ga a b (.slice A2 rs.length c2) (.slice A3 ws.length c3) rs ws (shR K rs) (shA K rs ws)) => (⟨q.txn.1, q.txn.2.1, q.txn.2.2.1, q.txn.2.2.2, (blk_cell q.1.2.2 1).trans rfl⟩ : _ ∧ _ ∧ _ ∧ _ ∧ _)) _ (by (first | with_reducible exact HSd.out | with_reducible exact HS4.out)))
                  (first | (go_at_call 25; (with_reducible refine (TtSt.touch HSd.out HTo.out).mono ?_); rintro e w4 ⟨rfl, hS4, hb4⟩; have HS4 := Aside0.mk hS4; have HO4 := Aside0.mk (Kd.R_below (Kd.R_drew HO.out) hb4); clear hS4 hb4))
                all_goals (
                  have hcr := HCR.out _ HS4.out
                  clear hbb HSd HO HTo q0 q1 q2 q3
                  by_cases hrb : shR K rs 1 = true
                  · rw [hrb] at hcr
                    obtain ⟨ht1, ht2⟩ := upTo_at 1 K (shR K rs) hlt hrb
                    have hln := upTo_len_true 1 (shR K rs) hrb
                    have hts := upTo_small 1 (shR K rs)
                    rw [HLL.out] at ht1 ht2
                    obtain ⟨t, ht⟩ : ∃ t, (upTo 1 (shR K rs)).length = t := ⟨_, rfl⟩
                    rw [ht] at ht1 ht2 hln hts
                    rw [ht]
                    have p1 : 0 ≤ (t : Int) := by omega
                    have p2 : (t : Int) < (L.length : Int) := by omega
                    obtain ⟨adL, eL, hxl⟩ := Kd.at_int (Kd.R_reads' HO4.out).2.2 (t : Int) p1 p2
                    cases eL
                    rw [ht2] at hxl
                    simp only [Int.toNat_natCast] at hxl
                    have hg1 : decide ((L.length : Int) ≤ (t : Int)) = false := decide_eq_false (by omega)
                    have hg2 : decide (L.length ≤ t) = false := decide_eq_false (by omega)
                    have HLN := Aside0.mk hln
                    clear hln ht ht2 hrb
                    go_wp2_with fail
                    go_roundw
                    case rel => exact ⟨1 + 1, by omega, by rw [HLN.out]; go_num, by go_num, HS4, HO4⟩
                    case measure => simp [intOf]; omega
                  · have hrf : shR K rs 1 = false := by simpa using hrb
                    rw [hrf] at hcr
                    have HLN := Aside0.mk (upTo_len_false 1 (shR K rs) hrf)
                    clear hrf hrb
                    go_wp2_with fail
                    go_roundw
                    case rel => exact ⟨1 + 1, by omega, by rw [HLN.out], by go_num, HS4, HO4⟩
                    case measure => simp [intOf]; omega)
              · have hcr := (fun (W : World) (q : TtSt w W g gr ga a b (.slice A2 rs.length c2) (.slice A3 ws.length c3) rs ws (shR K rs) (shA K rs ws)) => (blk_cell q.1.2.1 2).trans (rfl : _ = some (Value.bool (shR K rs 2))))
                have HCR := Aside0.mk hcr
                clear hcr
                obtain ⟨k7, hk7⟩ := touchesE HM.out K HK3.out 2
                have HTo := Aside0.mk hk7
                clear hk7
                have hbb : (shA K rs ws 2 != shA K rs ws 2) = false := by simp
                go_region_held3 (fun w' => w'.cell? ⟨g, 0, none⟩ = some (.int .i64 a) ∧ w'.cell? ⟨g, 1, none⟩ = some (.int .i64 b) ∧ w'.cell? ⟨g, 2, none⟩ = some (.slice A2 rs.length c2) ∧ w'.cell? ⟨g, 3, none⟩ = some (.slice A3 ws.length c3) ∧ w'.cell? ⟨ga, 2, none⟩ = some (.bool (shA K rs ws 2)))
                  (first | exact (fun W (q : TtSt w W g gr ga a b (.slice A2 rs.length c2) (.slice A3 ws.length c3) rs ws (shR K rs) (shA K rs ws)) => (⟨q.txn.1, q.txn.2.1, q.txn.2.2.1, q.txn.2.2.2, (blk_cell q.1.2.2 2).trans rfl⟩ : _ ∧ _ ∧ _ ∧ _ ∧ _)) _ (by (first | with_reducible exact HSd.out | with_reducible exact HS4.out)))
                  (first | (go_at_call 25; (with_reducible refine (TtSt.touch HSd.out HTo.out).mono ?_); rintro e w4 ⟨rfl, hS4, hb4⟩; have HS4 := Aside0.mk hS4; have HO4 := Aside0.mk (Kd.R_below (Kd.R_drew HO.out) hb4); clear hS4 hb4))
                all_goals (
                  have hcr := HCR.out _ HS4.out
                  clear hbb HSd HO HTo q0 q1 q2 q3
                  by_cases hrb : shR K rs 2 = true
                  · rw [hrb] at hcr
                    obtain ⟨ht1, ht2⟩ := upTo_at 2 K (shR K rs) hlt hrb
                    have hln := upTo_len_true 2 (shR K rs) hrb
                    have hts := upTo_small 2 (shR K rs)
                    rw [HLL.out] at ht1 ht2
                    obtain ⟨t, ht⟩ : ∃ t, (upTo 2 (shR K rs)).length = t := ⟨_, rfl⟩
                    rw [ht] at ht1 ht2 hln hts
                    rw [ht]
                    have p1 : 0 ≤ (t : Int) := by omega
                    have p2 : (t : Int) < (L.length : Int) := by omega
                    obtain ⟨adL, eL, hxl⟩ := Kd.at_int (Kd.R_reads' HO4.out).2.2 (t : Int) p1 p2
                    cases eL
                    rw [ht2] at hxl
                    simp only [Int.toNat_natCast] at hxl
                    have hg1 : decide ((L.length : Int) ≤ (t : Int)) = false := decide_eq_false (by omega)
                    have hg2 : decide (L.length ≤ t) = false := decide_eq_false (by omega)
                    have HLN := Aside0.mk hln
                    clear hln ht ht2 hrb
                    go_wp2_with fail
                    go_roundw
                    case rel => exact ⟨2 + 1, by omega, by rw [HLN.out]; go_num, by go_num, HS4, HO4⟩
                    case measure => simp [intOf]; omega
                  · have hrf : shR K rs 2 = false := by simpa using hrb
                    rw [hrf] at hcr
                    have HLN := Aside0.mk (upTo_len_false 2 (shR K rs) hrf)
                    clear hrf hrb
                    go_wp2_with fail
                    go_roundw
                    case rel => exact ⟨2 + 1, by omega, by rw [HLN.out], by go_num, HS4, HO4⟩
                    case measure => simp [intOf]; omega)
            · have hjl : s = K := by omega
              subst hjl
              have hd : decide (s < s) = false := decide_eq_false (Nat.lt_irrefl _)
              have hd2 : decide ((s : Int) < (s : Int)) = false := decide_eq_false (by omega)
              have hLe : (upTo s (shR s rs)).length = L.length := by rw [HLL.out]
              rw [hLe]
              have hbe : (L.length == L.length) = true := by simp
              have hbe2 : ((L.length : Int) == (L.length : Int)) = true := by simp
              clear hLe
              go_wp2_with fail
              obtain ⟨k8, hk8⟩ := touchesE HM.out s HK3.out (s : Int)
              rw [shA_out s rs ws HK1.out (s : Int) (.inr (Int.le_refl _))] at hk8
              obtain ⟨k9, hk9⟩ := touchesE HM.out s HK3.out (-1)
              rw [shA_out s rs ws HK1.out (-1) (.inl (by decide))] at hk9
              have H9 := Aside0.mk hk9
              clear hk9
              refine calls_of_args (args' := #[.agg #[.int .i64 a, .int .i64 b, .slice A2 rs.length c2, .slice A3 ws.length c3], .int .i64 (s : Int), .int .i64 (s : Int)]) (by rfl) ?_
              refine (TtSt.touch HS.out hk8).mono ?_
              rintro e w6 ⟨rfl, hS6, -⟩
              have HS6 := Aside0.mk hS6
              clear hS6 hk8 q0 q1 q2 q3
              obtain ⟨q0, q1, q2, q3⟩ := HS6.out.txn
              go_wp2_with fail
              refine calls_of_args (args' := #[.agg #[.int .i64 a, .int .i64 b, .slice A2 rs.length c2, .slice A3 ws.length c3], .int .i64 (-1), .int .i64 (s : Int)]) (by rfl) ?_
              refine (TtSt.touch HS6.out H9.out).mono ?_
              rintro e w7 ⟨rfl, hS7, -⟩
              have HB7 := Aside0.mk hS7.2.2.2
              clear hS7
              go_wp2_with fail
              go_ret
              exact ⟨rfl, HB7.out⟩
theorem diwanlaw5_TxnTouch.walk (a0 : Option Addr) (len0 cap0 : Nat) (z0 : List Int) (a1 : Int) (w : World) (w0 : (a0 = none ∧ len0 = 0 ∧ cap0 = 0 ∧ z0 = []) ∨ ∃ x, a0 = some x ∧ len0 ≤ cap0 ∧ cap0 ≤ maxLen ∧ z0.length = cap0 ∧ (∀ i, i < z0.length → w.cell? (x.add i) = some (.int .u8 (z0.getD i 0))) ∧ ∀ n ∈ z0, (Lit.int .u8 n).wf = true) (y0 : len0 * 1 ≤ 140737488351232) (w1 : (Lit.int .u8 a1).wf = true) :
    Calls Try.prog 4 #[.slice a0 len0 cap0, .int .u8 a1] w fun e w' => e = .returned (.bool true) ∧ Below w.heap.size w w' := by
  obtain ⟨l0, rfl, hr0, hm0, hw0, hc0⟩ := ReadsInt.ofRowC w0
  have h1 : 0 ≤ a1 ∧ a1 ≤ 255 := bounds_u8 w1
  exact diwanlaw5_TxnTouch.walk0 a0 cap0 l0 a1 w (Kd.C_of_reads (d := (0 : Int)) (h1 := fun _ => rfl) hr0) hc0 hw0 h1
end Go.Proofs.Ytnlfhbohcgjcbaa.PA
namespace Go.Proofs.Ytnlfhbohcgjcbaa.txnTouch
open Go.ChangeShapes Go.WideShapes Go.ChangeAt Go.RowKit
open Go.Proofs.YtnlfhbohcgjcbaaW
open Go.ChangeMaps (open_string shut_string)
set_option linter.unusedVariables false
theorem own : ownKnob Try.prog.godebug = none := by kernel_rfl
theorem laidOut : laidOutB Try.prog = true := by kernel_rfl
def IsRow (k : IntKind) (w : World) (a : Option Addr) (len cap : Nat) (zs : List Int) : Prop :=
 (a = none ∧ len = 0 ∧ cap = 0 ∧ zs = []) ∨
 ∃ x, a = some x ∧ len ≤ cap ∧ cap ≤ maxLen ∧ zs.length = cap ∧ (∀ i, i < zs.length → w.cell? (x.add i) = some (.int k (zs.getD i 0))) ∧ ∀ n ∈ zs, (Lit.int k n).wf = true
set_option maxRecDepth 100000 in
theorem lifted (os : Os) (started : os.Started) (H : Type) (enc : TypeId × Value → H) :
  ReturnsInHanded {} Try.checked os 4 .any (Rows.txnTouchSpec.pre6 enc Try.prog Try.f4 Rows.txnTouchRow.domain false) (Rows.txnTouchSpec.post enc Try.prog Try.f4 false true false false) := by
 refine returnsInHanded_of_change_sized (C := Try.checked) own started (by kernel_rfl) Try.func4
  (ChangeSpec.witness6 (enc := enc) (C := Try.checked) false ⟨#[], #[.slice none 0 0, .int .u8 0], []⟩ 8 (by kernel_rfl) (by kernel_rfl) (by kernel_rfl) (by kernel_rfl)) ?_
 intro W base args ds gs before hval0 hW hcnd hsz0 _
 have hsz : (DataW.weightsEach Try.prog (Try.f4.params.toList ++ Rows.txnTouchSpec.plain.varTypes Try.prog) (ds ++ gs)).all (· ≤ reachBytes) = true := hsz0
 have hval : ∀ (j : Nat) t v, Try.f4.params[j]? = some t → args[j]? = some v → Value.okWide Try.prog W .any base t v := hval0
 have hW' := hW
 obtain ⟨p, q, hA0, hV, rfl, hfz, hnd⟩ := hW
 have hA : DataW.TrodAll enc Try.prog W 0 (fun _ => true) true Try.f4.params.toList args.toList ds p := hA0
 rw [Try.params4] at hA hval hsz
 obtain ⟨v0, vs0, d0, ds0, p0, q0, hargs, rfl, rfl, h0, r0⟩ := trodAll_cons hA
 obtain ⟨v1, vs1, d1, ds1, p1, q1, rfl, rfl, rfl, h1, r1⟩ := trodAll_cons r0
 obtain ⟨rfl, rfl, rfl⟩ := trodAll_nil r1
 obtain rfl : args = #[v0, v1] := by cases args; simp_all
 obtain ⟨rfl, rfl⟩ := trodVars_none hV
 obtain ⟨a0, len0, cap0, rfl⟩ := okWide_slice Try.underlying33 (hval 0 33 v0 rfl rfl)
 have k0 := h0
 have lt0 : ∀ x ∈ p0, x.block < W.heap.size := by obtain ⟨m, hm⟩ := k0; exact DataW.trod_lt m _ _ _ hm
 obtain ⟨z0, w0⟩ : ∃ zs, IsRow .u8 W a0 len0 cap0 zs := by
  obtain ⟨fuel, hf⟩ := h0
  rcases open_ints Try.underlying33 Try.underlying5 (by kernel_rfl) hf with ⟨hcs, _⟩ | ⟨x, l, c, zs, hcs, _, hl, hm, hz, _, hcell, hwz⟩
  ·simp [Value.cells] at hcs
   obtain ⟨rfl, rfl, rfl⟩ := hcs
   exact ⟨[], .inl ⟨rfl, rfl, rfl, rfl⟩⟩
  ·simp [Value.cells] at hcs
   obtain ⟨rfl, rfl, rfl⟩ := hcs
   exact ⟨zs, .inr ⟨_, rfl, hl, hm, by simpa using hz, hcell, hwz⟩⟩
 have y0 : len0 * 1 ≤ 140737488351232 := PrintWords.sized_ints hsz (j := 0) (t := 33) rfl rfl Try.underlying33 Try.underlying5 (by kernel_rfl) (by kernel_rfl) h0
 obtain ⟨a1, rfl, rfl, rfl, w1⟩ := open_int Try.underlying5 (hval 1 5 v1 rfl rfl) h1
 clear hA0 hval0 hsz0 hsz
 refine (PA.diwanlaw5_TxnTouch.walk a0 len0 cap0 z0 a1 W w0 y0 w1).mono fun e W' ⟨he, bel⟩ => ?_
 subst he
 exact ⟨_, rfl, _, _, _, [], _, [], hW', trodAll_mk1 (shut_bool Try.underlying4 _), (trodAll_cons_mk (Below.trod laidOut (by kernel_rfl) (of_decide_eq_true (by kernel_rfl)) k0 bel lt0) (trodAll_cons_mk (shut_int Try.underlying5 w1) trodAll_mk0)), rfl, bel.frame _, fun h => by cases h⟩
theorem over : Rows.txnTouchRow.holds Try.pinned (OpenSpec.ofChange Rows.txnTouchSpec) :=
 OpenClaim.holds_of_wide 4 Try.f4 rfl rfl rfl rfl rfl rfl rfl ⟨rfl, rfl, rfl, rfl, rfl⟩ rfl rfl rfl rfl rfl (by kernel_rfl) Try.func4 (by kernel_rfl)
  (of_decide_eq_true (by kernel_rfl)) (by unfold Func.isWrapper; first | (rw [if_pos (by decide +kernel)]; kernel_rfl) | (rw [if_neg (by decide +kernel)]; exact ⟨rfl, rfl⟩))
  (fun os started H enc _ => lifted os started H enc)
theorem proved : Rows.TxnTouchSaid := over
end Go.Proofs.Ytnlfhbohcgjcbaa.txnTouch
namespace Go.Proofs.Ytnlfhbohcgjcbaa
/-- The row, under a short name, for the claim. -/
theorem txnTouch_holds : Rows.TxnTouchSaid := txnTouch.proved
end Go.Proofs.Ytnlfhbohcgjcbaa
