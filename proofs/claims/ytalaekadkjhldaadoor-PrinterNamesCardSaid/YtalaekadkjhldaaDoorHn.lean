/- A part of the proof of the statement PrinterNames (the printer's examples, further texts and errors): contracts of functions of the program, proved by walking their text. -/
import Derived.Test.YtalaekadkjhldaaDoorPn0
import Derived.Test.YtalaekadkjhldaaDoorPn1
import Derived.Test.YtalaekadkjhldaaDoorPn2
import Derived.Test.YtalaekadkjhldaaDoorPn3
import Derived.Test.YtalaekadkjhldaaDoorPn4
import Derived.Test.YtalaekadkjhldaaDoorPn5
import Derived.Test.YtalaekadkjhldaaDoorPn6
import Derived.Outline
import Derived.Deep.RegionHeld3
import Derived.Deep.LoopGhost
import Derived.Lib.SmallJoins
import Derived.Test.YtalaekadkjhldaaDoorShelf
import Derived.Test.YtalaekadkjhldaaDoorHa
import Derived.Test.YtalaekadkjhldaaDoorHb
import Derived.Test.YtalaekadkjhldaaDoorHc
import Derived.Test.YtalaekadkjhldaaDoorHd
import Derived.Test.YtalaekadkjhldaaDoorHe
import Derived.Test.YtalaekadkjhldaaDoorHf
import Derived.Test.YtalaekadkjhldaaDoorHg
import Derived.Test.YtalaekadkjhldaaDoorHh
import Derived.Test.YtalaekadkjhldaaDoorHi
import Derived.Test.YtalaekadkjhldaaDoorHj
import Derived.Test.YtalaekadkjhldaaDoorHk
import Derived.Test.YtalaekadkjhldaaDoorHl
import Derived.Test.YtalaekadkjhldaaDoorHm
namespace Go.Proofs.YtalaekadkjhldaaDoor.Pr
open Go.RowKit Go.Proofs.YtalaekadkjhldaaDoorW.PrintWords Go.Proofs.YtalaekadkjhldaaDoorW.PrintLast Go.Proofs.YtalaekadkjhldaaDoorW.PrintMore
attribute [local go_sem] max2_int min2_int max_two min_two max_three min_three max_four min_four
set_option linter.unusedVariables false
set_option linter.unusedSimpArgs false
-- IMPORT Derived.Outline Derived.Deep.RegionHeld3 Derived.Deep.LoopGhost
theorem h_reps_nil {α : Type} {R : α → List Value → Prop} {size : Nat} : Reps R size [] [] := ⟨by simp, fun j p h => by simp at h⟩
theorem h_reps_cons {α : Type} {R : α → List Value → Prop} {size : Nat} {p : α} {ps : List α} {c cs : List Value} (hc : c.length = size) (h : R p c) (hr : Reps R size ps cs) : Reps R size (p :: ps) (c ++ cs) := by
  refine ⟨by simp [hc, hr.1, Nat.add_mul, Nat.add_comm], fun j q hq => ?_⟩
  cases j with
  | zero =>
    obtain rfl : p = q := by simpa using hq
    simpa [← hc] using h
  | succ j =>
    have := hr.2 j q (by simpa using hq)
    rw [show (j + 1) * size = c.length + j * size by rw [hc, Nat.add_mul]; omega, ← List.drop_drop, List.drop_left]
    exact this
/-- A block that is a row of elements. -/
theorem h_C_blk {α : Type} {d : Kd α} {W : World} {b : Nat} {cs : Array Value} {t : TypeId} {n : Nat} {xs : List α} (hb : W.heap[b]? = some (.cells cs t (0, 0))) (hr : Reps (d.K W) d.sz xs cs.toList) (hn : xs.length = n) (hm : n ≤ 9223372036854775807) : d.C W (some ⟨b, 0, none⟩) n xs := by
  refine ⟨hn, hm, fun _ => ⟨_, rfl, fun j p hj => ⟨(cs.toList.drop (j * d.sz)).take d.sz, ?_, hr.2 j p hj, fun i u hu => ?_⟩⟩⟩
  · exact d.K_len (hr.2 j p hj)
  · rw [add_plain]
    refine (blk_cell hb _).trans ?_
    rw [List.getElem?_take] at hu
    split at hu
    · rw [List.getElem?_drop] at hu
      rw [← hu]; simp
    · cases hu
theorem h_k25_sz : k25.sz = 5 := rfl
theorem h_k29_sz : k29.sz = 12 := rfl
/-- A number. -/
abbrev numE (s : ByteArray) : S25 := ⟨1, s, ⟨#[]⟩, 0, []⟩
abbrev pairE (k : Int) (x y : S25) : S25 := ⟨k, ⟨#[]⟩, ⟨#[]⟩, 0, [x, y]⟩
set_option maxHeartbeats 2000000 in
set_option maxRecDepth 100000 in
theorem h_number (s : ByteArray) (w : World) :
    Calls Tryd.prog 11 #[.string s] w fun e w' => e = .returned (.agg #[.int .u8 1, .string s, .string ⟨#[]⟩, .int .i64 0, .slice none 0 0]) ∧ Below w.heap.size w w' := by
  go_enter Tryd.func11, Tryd.ntmps11
  go_wp2
  exact bodyPost_ret (results_cell_row rfl _ _ w.heap.size 25 #[.int .u8 1, .string s, .string (⟨#[]⟩ : ByteArray), .int .i64 0, .slice none 0 0] (0, 0) _ rfl (blk_new w _) Tryd.underlying25 rfl (by kernel_rfl)) rfl ⟨rfl, below_alloc (Below.refl _ _) _⟩
set_option maxHeartbeats 2000000 in
set_option maxRecDepth 100000 in
theorem h_pairB (k : Int) (x y : S25) (A B : Option Addr) (c d n m : Nat) (w : World) :
    Calls Tryd.prog 14 #[.int .u8 k, .agg #[.int .u8 x.f0, .string x.f1, .string x.f2, .int .i64 x.f3, .slice A n c], .agg #[.int .u8 y.f0, .string y.f1, .string y.f2, .int .i64 y.f3, .slice B m d]] w fun e w' =>
      ∃ b, e = .returned (.agg #[.int .u8 k, .string ⟨#[]⟩, .string ⟨#[]⟩, .int .i64 0, .slice (some ⟨b, 0, none⟩) 2 2]) ∧ w'.heap[b]? = some (.cells #[.int .u8 x.f0, .string x.f1, .string x.f2, .int .i64 x.f3, .slice A n c, .int .u8 y.f0, .string y.f1, .string y.f2, .int .i64 y.f3, .slice B m d] 25 (0, 0)) ∧ w.heap.size ≤ b ∧ Below w.heap.size w w' := by
  go_enter Tryd.func14, Tryd.ntmps14
  go_wp2
  obtain ⟨w1, e1⟩ : ∃ w1, w1 = (w.alloc (.cells #[.int .u8 x.f0, .string x.f1, .string x.f2, .int .i64 x.f3, .slice A n c] 25)).alloc (.cells #[.int .u8 y.f0, .string y.f1, .string y.f2, .int .i64 y.f3, .slice B m d] 25) := ⟨_, rfl⟩
  have hs : w.heap.size + 1 + 1 = w1.heap.size := by rw [e1]; simp
  have b1 : Below w.heap.size w w1 := by rw [e1]; exact below_step (below_alloc (Below.refl _ _) _) (below_alloc (Below.refl _ _) _)
  rw [← e1, hs]
  clear e1
  have k2 := blk_new w1 (.cells #[.int .u8 k, .string (⟨#[]⟩ : ByteArray), .string (⟨#[]⟩ : ByteArray), .int .i64 0, .slice (some ⟨w1.heap.size + 1, 0, none⟩) 2 2] 25)
  have b2 := below_alloc (Below.refl w1.heap.size w1) (.cells #[.int .u8 k, .string (⟨#[]⟩ : ByteArray), .string (⟨#[]⟩ : ByteArray), .int .i64 0, .slice (some ⟨w1.heap.size + 1, 0, none⟩) 2 2] 25)
  have hs2 : w1.heap.size + 1 = (w1.alloc (.cells #[.int .u8 k, .string (⟨#[]⟩ : ByteArray), .string (⟨#[]⟩ : ByteArray), .int .i64 0, .slice (some ⟨w1.heap.size + 1, 0, none⟩) 2 2] 25)).heap.size := by simp
  generalize w1.alloc (.cells #[.int .u8 k, .string (⟨#[]⟩ : ByteArray), .string (⟨#[]⟩ : ByteArray), .int .i64 0, .slice (some ⟨w1.heap.size + 1, 0, none⟩) 2 2] 25) = w2 at k2 b2 hs2 ⊢
  have b3 := below_alloc (Below.refl w2.heap.size w2) (.cells #[.int .u8 x.f0, .string x.f1, .string x.f2, .int .i64 x.f3, .slice A n c, .int .u8 y.f0, .string y.f1, .string y.f2, .int .i64 y.f3, .slice B m d] 25)
  have k3 := blk_new w2 (.cells #[.int .u8 x.f0, .string x.f1, .string x.f2, .int .i64 x.f3, .slice A n c, .int .u8 y.f0, .string y.f1, .string y.f2, .int .i64 y.f3, .slice B m d] 25)
  have ball := below_step (below_step b1 b2) b3
  refine bodyPost_ret (results_cell_row rfl _ _ w1.heap.size 25 #[.int .u8 k, .string (⟨#[]⟩ : ByteArray), .string (⟨#[]⟩ : ByteArray), .int .i64 0, .slice (some ⟨w1.heap.size + 1, 0, none⟩) 2 2] (0, 0) _ rfl (blk_below k2 b3) Tryd.underlying25 rfl (by kernel_rfl)) rfl ⟨w1.heap.size + 1, rfl, ?_, by have := b1.size; omega, ball⟩
  rw [hs2]
  exact k3
/-- A block of two expressions. -/
theorem h_C_pair {W : World} {b : Nat} (x y : S25) {A B : Option Addr} {c d n m : Nat} (hn : x.f4.length = n) (hm : y.f4.length = m) (hb : W.heap[b]? = some (.cells #[.int .u8 x.f0, .string x.f1, .string x.f2, .int .i64 x.f3, .slice A n c, .int .u8 y.f0, .string y.f1, .string y.f2, .int .i64 y.f3, .slice B m d] 25 (0, 0))) (hx : k25.C W A n x.f4) (hc : n ≤ c) (hy : k25.C W B m y.f4) (hd : m ≤ d) : k25.C W (some ⟨b, 0, none⟩) 2 [x, y] := by
  subst hn hm
  refine h_C_blk hb ?_ rfl (by decide)
  exact h_reps_cons rfl (k25_mk _ x hc hx) (h_reps_cons (cs := []) rfl (k25_mk _ y hd hy) h_reps_nil)
theorem h_pair (k : Int) (x y : S25) (A B : Option Addr) (c d n m : Nat) (hn : x.f4.length = n) (hm : y.f4.length = m) (w : World) (hx : k25.C w A n x.f4) (hc : n ≤ c) (hy : k25.C w B m y.f4) (hd : m ≤ d) :
    Calls Tryd.prog 14 #[.int .u8 k, .agg #[.int .u8 x.f0, .string x.f1, .string x.f2, .int .i64 x.f3, .slice A n c], .agg #[.int .u8 y.f0, .string y.f1, .string y.f2, .int .i64 y.f3, .slice B m d]] w fun e w' =>
      ∃ b, e = .returned (.agg #[.int .u8 k, .string ⟨#[]⟩, .string ⟨#[]⟩, .int .i64 0, .slice (some ⟨b, 0, none⟩) 2 2]) ∧ k25.C w' (some ⟨b, 0, none⟩) 2 [x, y] ∧ Below w.heap.size w w' := by
  refine (h_pairB k x y A B c d n m w).mono ?_
  rintro e w' ⟨b, rfl, hb, _, hl⟩
  exact ⟨b, rfl, h_C_pair x y hn hm hb (Kd.C_below hx hl) hc (Kd.C_below hy hl) hd, hl⟩

-- IMPORT Derived.Outline Derived.Deep.RegionHeld3 Derived.Deep.LoopGhost
set_option maxHeartbeats 2000000 in
set_option maxRecDepth 100000 in
theorem h_ask (k : Nat) (x : S25) (A : Option Addr) (c n : Nat) (hn : x.f4.length = n) (want : ByteArray) (w : World) (hG : ShG w) (hx : k25.C w A n x.f4) (hc : n ≤ c) (h : printer_PrintExpr.f k x.f0 x.f1 x.f2 x.f3 x.f4 = some (want, 0)) :
    Calls Tryd.prog 12 #[.agg #[.int .u8 x.f0, .string x.f1, .string x.f2, .int .i64 x.f3, .slice A n c], .string want] w fun e w' => e = .returned (.bool true) ∧ Below w.heap.size w w' := by
  subst hn
  have HG := Aside0.mk hG
  have HX := Aside0.mk hx
  have HF := Aside0.mk h
  have B1 := Aside0.mk (below_alloc (Below.refl w.heap.size w) (.cells #[.int .u8 x.f0, .string x.f1, .string x.f2, .int .i64 x.f3, .slice A x.f4.length c] 25))
  obtain ⟨x0, x1, x2, x3, x4⟩ := h_box5 (blk_new w (.cells #[.int .u8 x.f0, .string x.f1, .string x.f2, .int .i64 x.f3, .slice A x.f4.length c] 25))
  clear hG hx h
  go_enter Tryd.func12, Tryd.ntmps12
  go_wp2_with (go_at_call 13; refine (printer_PrintExpr.calls k _ _ _ _ _ _ _ want 0 _ (HG.out.below B1.out) (Kd.C_below HX.out B1.out) hc HF.out).mono ?_; rintro e w' ⟨rfl, hb⟩; have B2 := Aside0.mk (below_step B1.out hb); clear hb)
  go_ret
  exact ⟨rfl, B2.out⟩

theorem h_s1 : printer_PrintExpr.f 60 (pairE 5 (pairE 5 (numE ⟨#[49]⟩) (numE ⟨#[50]⟩)) (numE ⟨#[51]⟩)).f0 (pairE 5 (pairE 5 (numE ⟨#[49]⟩) (numE ⟨#[50]⟩)) (numE ⟨#[51]⟩)).f1 (pairE 5 (pairE 5 (numE ⟨#[49]⟩) (numE ⟨#[50]⟩)) (numE ⟨#[51]⟩)).f2 (pairE 5 (pairE 5 (numE ⟨#[49]⟩) (numE ⟨#[50]⟩)) (numE ⟨#[51]⟩)).f3 (pairE 5 (pairE 5 (numE ⟨#[49]⟩) (numE ⟨#[50]⟩)) (numE ⟨#[51]⟩)).f4 = some (⟨#[49, 32, 45, 32, 50, 32, 45, 32, 51]⟩, 0) := by kernel_rfl
theorem h_s2 : printer_PrintExpr.f 60 (pairE 5 (numE ⟨#[49]⟩) (pairE 5 (numE ⟨#[50]⟩) (numE ⟨#[51]⟩))).f0 (pairE 5 (numE ⟨#[49]⟩) (pairE 5 (numE ⟨#[50]⟩) (numE ⟨#[51]⟩))).f1 (pairE 5 (numE ⟨#[49]⟩) (pairE 5 (numE ⟨#[50]⟩) (numE ⟨#[51]⟩))).f2 (pairE 5 (numE ⟨#[49]⟩) (pairE 5 (numE ⟨#[50]⟩) (numE ⟨#[51]⟩))).f3 (pairE 5 (numE ⟨#[49]⟩) (pairE 5 (numE ⟨#[50]⟩) (numE ⟨#[51]⟩))).f4 = some (⟨#[49, 32, 45, 32, 40, 50, 32, 45, 32, 51, 41]⟩, 0) := by kernel_rfl
theorem h_s3 : printer_PrintExpr.f 60 (pairE 4 (numE ⟨#[49]⟩) (pairE 6 (numE ⟨#[50]⟩) (numE ⟨#[51]⟩))).f0 (pairE 4 (numE ⟨#[49]⟩) (pairE 6 (numE ⟨#[50]⟩) (numE ⟨#[51]⟩))).f1 (pairE 4 (numE ⟨#[49]⟩) (pairE 6 (numE ⟨#[50]⟩) (numE ⟨#[51]⟩))).f2 (pairE 4 (numE ⟨#[49]⟩) (pairE 6 (numE ⟨#[50]⟩) (numE ⟨#[51]⟩))).f3 (pairE 4 (numE ⟨#[49]⟩) (pairE 6 (numE ⟨#[50]⟩) (numE ⟨#[51]⟩))).f4 = some (⟨#[49, 32, 43, 32, 50, 32, 42, 32, 51]⟩, 0) := by kernel_rfl
theorem h_s4 : printer_PrintExpr.f 60 (pairE 6 (pairE 4 (numE ⟨#[49]⟩) (numE ⟨#[50]⟩)) (numE ⟨#[51]⟩)).f0 (pairE 6 (pairE 4 (numE ⟨#[49]⟩) (numE ⟨#[50]⟩)) (numE ⟨#[51]⟩)).f1 (pairE 6 (pairE 4 (numE ⟨#[49]⟩) (numE ⟨#[50]⟩)) (numE ⟨#[51]⟩)).f2 (pairE 6 (pairE 4 (numE ⟨#[49]⟩) (numE ⟨#[50]⟩)) (numE ⟨#[51]⟩)).f3 (pairE 6 (pairE 4 (numE ⟨#[49]⟩) (numE ⟨#[50]⟩)) (numE ⟨#[51]⟩)).f4 = some (⟨#[40, 49, 32, 43, 32, 50, 41, 32, 42, 32, 51]⟩, 0) := by kernel_rfl
theorem h_s5 : printer_PrintExpr.f 60 (pairE 6 (numE ⟨#[49]⟩) (pairE 6 (numE ⟨#[50]⟩) (numE ⟨#[51]⟩))).f0 (pairE 6 (numE ⟨#[49]⟩) (pairE 6 (numE ⟨#[50]⟩) (numE ⟨#[51]⟩))).f1 (pairE 6 (numE ⟨#[49]⟩) (pairE 6 (numE ⟨#[50]⟩) (numE ⟨#[51]⟩))).f2 (pairE 6 (numE ⟨#[49]⟩) (pairE 6 (numE ⟨#[50]⟩) (numE ⟨#[51]⟩))).f3 (pairE 6 (numE ⟨#[49]⟩) (pairE 6 (numE ⟨#[50]⟩) (numE ⟨#[51]⟩))).f4 = some (⟨#[49, 32, 42, 32, 40, 50, 32, 42, 32, 51, 41]⟩, 0) := by kernel_rfl
theorem h_s6 : printer_PrintExpr.f 60 (pairE 6 (pairE 6 (numE ⟨#[49]⟩) (numE ⟨#[50]⟩)) (numE ⟨#[51]⟩)).f0 (pairE 6 (pairE 6 (numE ⟨#[49]⟩) (numE ⟨#[50]⟩)) (numE ⟨#[51]⟩)).f1 (pairE 6 (pairE 6 (numE ⟨#[49]⟩) (numE ⟨#[50]⟩)) (numE ⟨#[51]⟩)).f2 (pairE 6 (pairE 6 (numE ⟨#[49]⟩) (numE ⟨#[50]⟩)) (numE ⟨#[51]⟩)).f3 (pairE 6 (pairE 6 (numE ⟨#[49]⟩) (numE ⟨#[50]⟩)) (numE ⟨#[51]⟩)).f4 = some (⟨#[49, 32, 42, 32, 50, 32, 42, 32, 51]⟩, 0) := by kernel_rfl
theorem h_case : printer_PrintExpr.f 60 (⟨9, ⟨#[]⟩, ⟨#[]⟩, 0, [⟨15, ⟨#[]⟩, ⟨#[]⟩, 0, [(pairE 11 (⟨2, ⟨#[]⟩, ⟨#[111, 110]⟩, 0, []⟩ : S25) (pairE 4 (numE ⟨#[49]⟩) (numE ⟨#[50]⟩)))]⟩, (pairE 7 (numE ⟨#[49]⟩) (numE ⟨#[50]⟩)), (pairE 8 (numE ⟨#[50]⟩) (numE ⟨#[49]⟩))]⟩ : S25).f0 (⟨9, ⟨#[]⟩, ⟨#[]⟩, 0, [⟨15, ⟨#[]⟩, ⟨#[]⟩, 0, [(pairE 11 (⟨2, ⟨#[]⟩, ⟨#[111, 110]⟩, 0, []⟩ : S25) (pairE 4 (numE ⟨#[49]⟩) (numE ⟨#[50]⟩)))]⟩, (pairE 7 (numE ⟨#[49]⟩) (numE ⟨#[50]⟩)), (pairE 8 (numE ⟨#[50]⟩) (numE ⟨#[49]⟩))]⟩ : S25).f1 (⟨9, ⟨#[]⟩, ⟨#[]⟩, 0, [⟨15, ⟨#[]⟩, ⟨#[]⟩, 0, [(pairE 11 (⟨2, ⟨#[]⟩, ⟨#[111, 110]⟩, 0, []⟩ : S25) (pairE 4 (numE ⟨#[49]⟩) (numE ⟨#[50]⟩)))]⟩, (pairE 7 (numE ⟨#[49]⟩) (numE ⟨#[50]⟩)), (pairE 8 (numE ⟨#[50]⟩) (numE ⟨#[49]⟩))]⟩ : S25).f2 (⟨9, ⟨#[]⟩, ⟨#[]⟩, 0, [⟨15, ⟨#[]⟩, ⟨#[]⟩, 0, [(pairE 11 (⟨2, ⟨#[]⟩, ⟨#[111, 110]⟩, 0, []⟩ : S25) (pairE 4 (numE ⟨#[49]⟩) (numE ⟨#[50]⟩)))]⟩, (pairE 7 (numE ⟨#[49]⟩) (numE ⟨#[50]⟩)), (pairE 8 (numE ⟨#[50]⟩) (numE ⟨#[49]⟩))]⟩ : S25).f3 (⟨9, ⟨#[]⟩, ⟨#[]⟩, 0, [⟨15, ⟨#[]⟩, ⟨#[]⟩, 0, [(pairE 11 (⟨2, ⟨#[]⟩, ⟨#[111, 110]⟩, 0, []⟩ : S25) (pairE 4 (numE ⟨#[49]⟩) (numE ⟨#[50]⟩)))]⟩, (pairE 7 (numE ⟨#[49]⟩) (numE ⟨#[50]⟩)), (pairE 8 (numE ⟨#[50]⟩) (numE ⟨#[49]⟩))]⟩ : S25).f4 = some (⟨#[99, 97, 115, 101, 40, 110, 111, 116, 40, 108, 101, 115, 115, 40, 34, 111, 110, 34, 64, 49, 57, 48, 48, 45, 48, 49, 45, 48, 49, 44, 32, 49, 32, 43, 32, 50, 41, 41, 44, 32, 109, 97, 120, 40, 49, 44, 32, 50, 41, 44, 32, 109, 105, 110, 40, 50, 44, 32, 49, 41, 41]⟩, 0) := by kernel_rfl

-- IMPORT Derived.Outline
abbrev conZ : S29 := ⟨1, ⟨#[]⟩, ⟨#[]⟩, ⟨#[]⟩, ⟨0, ⟨#[]⟩, ⟨#[]⟩, 0, []⟩, 0, [], []⟩
abbrev conA : S29 := ⟨2, ⟨#[65]⟩, ⟨#[66]⟩, ⟨#[69, 85, 82]⟩, (pairE 6 (numE ⟨#[50]⟩) (pairE 5 (⟨3, ⟨#[]⟩, ⟨#[88]⟩, 0, []⟩ : S25) (numE ⟨#[45, 49]⟩))), 0, [], []⟩
abbrev conB : S29 := ⟨3, ⟨#[]⟩, ⟨#[]⟩, ⟨#[]⟩, ⟨0, ⟨#[]⟩, ⟨#[]⟩, 0, []⟩, 0, [], [conZ, ⟨6, ⟨#[]⟩, ⟨#[]⟩, ⟨#[]⟩, ⟨0, ⟨#[]⟩, ⟨#[]⟩, 0, []⟩, 10, [], [conZ]⟩]⟩
abbrev conP : S29 := ⟨7, ⟨#[65]⟩, ⟨#[]⟩, ⟨#[116, 111]⟩, ⟨0, ⟨#[]⟩, ⟨#[]⟩, 0, []⟩, 0, [], [conZ, ⟨8, ⟨#[98, 121]⟩, ⟨#[]⟩, ⟨#[110]⟩, ⟨0, ⟨#[]⟩, ⟨#[]⟩, 0, []⟩, 0, [0, 31], [conZ]⟩]⟩
theorem h_conA : printer_Print.f 60 conA = some (⟨#[65, 32, 112, 97, 121, 115, 32, 50, 32, 42, 32, 40, 88, 64, 110, 111, 119, 32, 45, 32, 45, 49, 41, 32, 69, 85, 82, 32, 116, 111, 32, 66]⟩, 0) := by kernel_rfl
theorem h_conB : printer_Print.f 60 conB = some (⟨#[98, 111, 116, 104, 32, 123, 10, 32, 32, 110, 111, 116, 104, 105, 110, 103, 59, 10, 32, 32, 111, 110, 32, 49, 57, 48, 48, 45, 48, 49, 45, 49, 49, 32, 123, 10, 32, 32, 32, 32, 110, 111, 116, 104, 105, 110, 103, 10, 32, 32, 125, 10, 125]⟩, 0) := by kernel_rfl
theorem h_conP : printer_Print.f 60 conP = some (⟨#[99, 104, 111, 105, 99, 101, 32, 34, 116, 111, 34, 32, 98, 121, 32, 65, 32, 123, 10, 32, 32, 110, 111, 116, 104, 105, 110, 103, 10, 125, 32, 101, 108, 115, 101, 32, 123, 10, 32, 32, 99, 97, 108, 108, 32, 110, 32, 98, 121, 32, 34, 98, 121, 34, 32, 111, 110, 32, 49, 57, 48, 48, 45, 48, 49, 45, 48, 49, 44, 32, 49, 57, 48, 48, 45, 48, 50, 45, 48, 49, 32, 123, 10, 32, 32, 32, 32, 110, 111, 116, 104, 105, 110, 103, 10, 32, 32, 125, 10, 125]⟩, 0) := by kernel_rfl
theorem h_q1 : printer_Quote.f 60 ⟨#[112, 97, 121, 115]⟩ = some (⟨#[34, 112, 97, 121, 115, 34]⟩, 0) := by kernel_rfl
theorem h_q2 : printer_Quote.f 60 ⟨#[80, 97, 121, 115]⟩ = some (⟨#[80, 97, 121, 115]⟩, 0) := by kernel_rfl
theorem h_q3 : printer_Quote.f 60 ⟨#[]⟩ = some (⟨#[]⟩, 8) := by kernel_rfl
theorem h_q4 : printer_Quote.f 60 ⟨#[49, 97]⟩ = some (⟨#[]⟩, 8) := by kernel_rfl
theorem h_q5 : printer_PrintExpr.f 60 0 ⟨#[]⟩ ⟨#[]⟩ 0 [] = some (⟨#[]⟩, 8) := by kernel_rfl

-- IMPORT Derived.Outline Derived.Deep.RegionHeld3 Derived.Deep.LoopGhost
theorem h_print (k : Nat) (c : S29) (A8 A10 A11 : Option Addr) (c8 c10 c11 n8 n10 n11 : Nat) (e8 : c.f4.f4.length = n8) (e10 : c.f6.length = n10) (e11 : c.f7.length = n11) (w : World) (hG : ShG w) (hP : PtG w)
    (r8 : Kd.C k25 w A8 c.f4.f4.length c.f4.f4) (l8 : c.f4.f4.length ≤ c8) (r10 : Kd.C (Kd.int .i64) w A10 c.f6.length c.f6) (l10 : c.f6.length ≤ c10) (r11 : Kd.C k29 w A11 c.f7.length c.f7) (l11 : c.f7.length ≤ c11) (s : ByteArray) (r : Int) (h : printer_Print.f k c = some (s, r)) :
    Calls Tryd.prog 8 #[.agg #[.int .u8 c.f0, .string c.f1, .string c.f2, .string c.f3, .int .u8 c.f4.f0, .string c.f4.f1, .string c.f4.f2, .int .i64 c.f4.f3, .slice A8 n8 c8, .int .i64 c.f5, .slice A10 n10 c10, .slice A11 n11 c11]] w fun e w' => e = .returned (.tuple #[.string s, .int .i64 r]) ∧ Below w.heap.size w w' := by
  subst e8 e10 e11
  have := printer_Print.calls k w ⟨c, trivial, A8, c8, A10, c10, A11, c11, r8, l8, r10, l10, r11, l11⟩ s r hG hP h
  unfold Nd.cells at this
  exact this
theorem h_con_nil (d : Kd S29) (w : World) : d.C w none 0 [] := Kd.C_nil d w
/-- What lies in a row of contracts: nothing. -/
theorem h_conZ_K (w : World) : k29.K w conZ #[.int .u8 1, .string ⟨#[]⟩, .string ⟨#[]⟩, .string ⟨#[]⟩, .int .u8 0, .string ⟨#[]⟩, .string ⟨#[]⟩, .int .i64 0, .slice none 0 0, .int .i64 0, .slice none 0 0, .slice none 0 0].toList := k29_mk w conZ (c8 := 0) (by decide) (Kd.C_nil _ _) (c10 := 0) (by decide) (Kd.C_nil _ _) (c11 := 0) (by decide) (Kd.C_nil _ _)
abbrev conAt : S29 := ⟨6, ⟨#[]⟩, ⟨#[]⟩, ⟨#[]⟩, ⟨0, ⟨#[]⟩, ⟨#[]⟩, 0, []⟩, 10, [], [conZ]⟩
theorem h_conB_mem (w : World) : Below w.heap.size w (((w.alloc (.cells #[.int .u8 1, .string ⟨#[]⟩, .string ⟨#[]⟩, .string ⟨#[]⟩, .int .u8 0, .string ⟨#[]⟩, .string ⟨#[]⟩, .int .i64 0, .slice none 0 0, .int .i64 0, .slice none 0 0, .slice none 0 0] 29)).alloc (.cells #[.int .u8 1, .string ⟨#[]⟩, .string ⟨#[]⟩, .string ⟨#[]⟩, .int .u8 0, .string ⟨#[]⟩, .string ⟨#[]⟩, .int .i64 0, .slice none 0 0, .int .i64 0, .slice none 0 0, .slice none 0 0] 29)).alloc (.cells #[.int .u8 1, .string ⟨#[]⟩, .string ⟨#[]⟩, .string ⟨#[]⟩, .int .u8 0, .string ⟨#[]⟩, .string ⟨#[]⟩, .int .i64 0, .slice none 0 0, .int .i64 0, .slice none 0 0, .slice none 0 0, .int .u8 6, .string ⟨#[]⟩, .string ⟨#[]⟩, .string ⟨#[]⟩, .int .u8 0, .string ⟨#[]⟩, .string ⟨#[]⟩, .int .i64 0, .slice none 0 0, .int .i64 10, .slice none 0 0, .slice (some ⟨w.heap.size + 1, 0, none⟩) 1 1] 29)) ∧
    Kd.C k29 (((w.alloc (.cells #[.int .u8 1, .string ⟨#[]⟩, .string ⟨#[]⟩, .string ⟨#[]⟩, .int .u8 0, .string ⟨#[]⟩, .string ⟨#[]⟩, .int .i64 0, .slice none 0 0, .int .i64 0, .slice none 0 0, .slice none 0 0] 29)).alloc (.cells #[.int .u8 1, .string ⟨#[]⟩, .string ⟨#[]⟩, .string ⟨#[]⟩, .int .u8 0, .string ⟨#[]⟩, .string ⟨#[]⟩, .int .i64 0, .slice none 0 0, .int .i64 0, .slice none 0 0, .slice none 0 0] 29)).alloc (.cells #[.int .u8 1, .string ⟨#[]⟩, .string ⟨#[]⟩, .string ⟨#[]⟩, .int .u8 0, .string ⟨#[]⟩, .string ⟨#[]⟩, .int .i64 0, .slice none 0 0, .int .i64 0, .slice none 0 0, .slice none 0 0, .int .u8 6, .string ⟨#[]⟩, .string ⟨#[]⟩, .string ⟨#[]⟩, .int .u8 0, .string ⟨#[]⟩, .string ⟨#[]⟩, .int .i64 0, .slice none 0 0, .int .i64 10, .slice none 0 0, .slice (some ⟨w.heap.size + 1, 0, none⟩) 1 1] 29)) (some ⟨w.heap.size + 1 + 1, 0, none⟩) 2 [conZ, conAt] := by
  have b1 := below_alloc (Below.refl w.heap.size w) (.cells #[.int .u8 1, .string ⟨#[]⟩, .string ⟨#[]⟩, .string ⟨#[]⟩, .int .u8 0, .string ⟨#[]⟩, .string ⟨#[]⟩, .int .i64 0, .slice none 0 0, .int .i64 0, .slice none 0 0, .slice none 0 0] 29)
  have e1 : w.heap.size + 1 = (w.alloc (.cells #[.int .u8 1, .string ⟨#[]⟩, .string ⟨#[]⟩, .string ⟨#[]⟩, .int .u8 0, .string ⟨#[]⟩, .string ⟨#[]⟩, .int .i64 0, .slice none 0 0, .int .i64 0, .slice none 0 0, .slice none 0 0] 29)).heap.size := by simp
  generalize w.alloc (.cells #[.int .u8 1, .string ⟨#[]⟩, .string ⟨#[]⟩, .string ⟨#[]⟩, .int .u8 0, .string ⟨#[]⟩, .string ⟨#[]⟩, .int .i64 0, .slice none 0 0, .int .i64 0, .slice none 0 0, .slice none 0 0] 29) = w1 at b1 e1 ⊢
  rw [e1]
  have b2 := below_alloc (Below.refl w1.heap.size w1) (.cells #[.int .u8 1, .string ⟨#[]⟩, .string ⟨#[]⟩, .string ⟨#[]⟩, .int .u8 0, .string ⟨#[]⟩, .string ⟨#[]⟩, .int .i64 0, .slice none 0 0, .int .i64 0, .slice none 0 0, .slice none 0 0] 29)
  have k2 := blk_new w1 (.cells #[.int .u8 1, .string ⟨#[]⟩, .string ⟨#[]⟩, .string ⟨#[]⟩, .int .u8 0, .string ⟨#[]⟩, .string ⟨#[]⟩, .int .i64 0, .slice none 0 0, .int .i64 0, .slice none 0 0, .slice none 0 0] 29)
  have e2 : w1.heap.size + 1 = (w1.alloc (.cells #[.int .u8 1, .string ⟨#[]⟩, .string ⟨#[]⟩, .string ⟨#[]⟩, .int .u8 0, .string ⟨#[]⟩, .string ⟨#[]⟩, .int .i64 0, .slice none 0 0, .int .i64 0, .slice none 0 0, .slice none 0 0] 29)).heap.size := by simp
  generalize w1.alloc (.cells #[.int .u8 1, .string ⟨#[]⟩, .string ⟨#[]⟩, .string ⟨#[]⟩, .int .u8 0, .string ⟨#[]⟩, .string ⟨#[]⟩, .int .i64 0, .slice none 0 0, .int .i64 0, .slice none 0 0, .slice none 0 0] 29) = w2 at b2 k2 e2 ⊢
  rw [e2]
  have b3 := below_alloc (Below.refl w2.heap.size w2) (.cells #[.int .u8 1, .string ⟨#[]⟩, .string ⟨#[]⟩, .string ⟨#[]⟩, .int .u8 0, .string ⟨#[]⟩, .string ⟨#[]⟩, .int .i64 0, .slice none 0 0, .int .i64 0, .slice none 0 0, .slice none 0 0, .int .u8 6, .string ⟨#[]⟩, .string ⟨#[]⟩, .string ⟨#[]⟩, .int .u8 0, .string ⟨#[]⟩, .string ⟨#[]⟩, .int .i64 0, .slice none 0 0, .int .i64 10, .slice none 0 0, .slice (some ⟨w1.heap.size, 0, none⟩) 1 1] 29)
  have k3 := blk_new w2 (.cells #[.int .u8 1, .string ⟨#[]⟩, .string ⟨#[]⟩, .string ⟨#[]⟩, .int .u8 0, .string ⟨#[]⟩, .string ⟨#[]⟩, .int .i64 0, .slice none 0 0, .int .i64 0, .slice none 0 0, .slice none 0 0, .int .u8 6, .string ⟨#[]⟩, .string ⟨#[]⟩, .string ⟨#[]⟩, .int .u8 0, .string ⟨#[]⟩, .string ⟨#[]⟩, .int .i64 0, .slice none 0 0, .int .i64 10, .slice none 0 0, .slice (some ⟨w1.heap.size, 0, none⟩) 1 1] 29)
  generalize w2.alloc (.cells #[.int .u8 1, .string ⟨#[]⟩, .string ⟨#[]⟩, .string ⟨#[]⟩, .int .u8 0, .string ⟨#[]⟩, .string ⟨#[]⟩, .int .i64 0, .slice none 0 0, .int .i64 0, .slice none 0 0, .slice none 0 0, .int .u8 6, .string ⟨#[]⟩, .string ⟨#[]⟩, .string ⟨#[]⟩, .int .u8 0, .string ⟨#[]⟩, .string ⟨#[]⟩, .int .i64 0, .slice none 0 0, .int .i64 10, .slice none 0 0, .slice (some ⟨w1.heap.size, 0, none⟩) 1 1] 29) = w3 at b3 k3 ⊢
  refine ⟨below_step (below_step b1 b2) b3, h_C_blk k3 ?_ rfl (by decide)⟩
  refine h_reps_cons rfl (h_conZ_K w3) (h_reps_cons (cs := []) rfl (k29_mk w3 conAt (c8 := 0) (by decide) (Kd.C_nil _ _) (c10 := 0) (by decide) (Kd.C_nil _ _) (c11 := 1) (by decide) (h_C_blk (blk_below k2 b3) (h_reps_cons (cs := []) rfl (h_conZ_K w3) h_reps_nil) rfl (by decide))) h_reps_nil)
set_option maxHeartbeats 8000000 in
set_option maxRecDepth 100000 in
theorem h_alive (w : World) (hG : ShG w) (hP : PtG w) : Calls Tryd.prog 6 #[] w fun e w' => e = .returned (.bool true) ∧ Below w.heap.size w w' := by
  have HG := Aside0.mk hG
  have HP := Aside0.mk hP
  have b1 := below_alloc (Below.refl w.heap.size w) (.cells #[.int .u8 3, .string ⟨#[]⟩, .string ⟨#[88]⟩, .int .i64 0, .slice none 0 0] 25)
  have BN := Aside0.mk (below_drew1 b1)
  obtain ⟨x0, x1, x2, x3, x4⟩ := h_box5 (blk_drew (blk_new w (.cells #[.int .u8 3, .string ⟨#[]⟩, .string ⟨#[88]⟩, .int .i64 0, .slice none 0 0] 25)))
  clear hG hP b1
  go_enter Tryd.func6, Tryd.ntmps6
  go_wp2_with fail
  go_region_held3 (fun w' => w'.cell? ⟨w.heap.size, 0, none⟩ = some (.int .u8 3) ∧ w'.cell? ⟨w.heap.size, 1, none⟩ = some (.string ⟨#[]⟩) ∧ w'.cell? ⟨w.heap.size, 2, none⟩ = some (.string ⟨#[88]⟩) ∧ w'.cell? ⟨w.heap.size, 3, none⟩ = some (.int .i64 0) ∧ w'.cell? ⟨w.heap.size, 4, none⟩ = some (.slice none 0 0))
    (first
      | (with_reducible exact ⟨x0, x1, x2, x3, x4⟩)
      | (go_split_ands; refine ⟨?_, ?_, ?_, ?_, ?_⟩ <;> exact pw_cell_below hb (by assumption)))
    (first
      | (go_at_call 11; (with_reducible refine (h_number _ _).mono ?_); rintro e wq ⟨rfl, hb⟩; have BN := Aside0.mk (below_step (by with_reducible exact Aside0.out (by assumption)) hb))
      | (go_at_call 14; (with_reducible refine (h_pair 5 (⟨3, ⟨#[]⟩, ⟨#[88]⟩, 0, []⟩) (numE ⟨#[45, 49]⟩) none none 0 0 0 0 rfl rfl _ (Kd.C_nil _ _) (by decide) (Kd.C_nil _ _) (by decide)).mono ?_); rintro e wq ⟨b1, rfl, hC, hb⟩; have BN := Aside0.mk (below_step (by with_reducible exact Aside0.out (by assumption)) hb); have CN := Aside0.mk hC; clear hC)
      | (go_at_call 14; (with_reducible refine (h_pair 6 (numE ⟨#[50]⟩) (pairE 5 ⟨3, ⟨#[]⟩, ⟨#[88]⟩, 0, []⟩ (numE ⟨#[45, 49]⟩)) none _ 0 2 0 2 rfl rfl _ (Kd.C_nil _ _) (by decide) CN.out (by decide)).mono ?_); rintro e wq ⟨b2, rfl, hC, hb⟩; have BN := Aside0.mk (below_step (by with_reducible exact Aside0.out (by assumption)) hb); have CN2 := Aside0.mk hC; clear hC)
      | (go_at_call 8; refine (h_print 60 conA _ none none 2 0 0 2 0 0 rfl rfl rfl _ (HG.out.below (by with_reducible exact Aside0.out (by assumption))) (HP.out.below (by with_reducible exact Aside0.out (by assumption))) CN2.out (by decide) (Kd.C_nil _ _) (by decide) (Kd.C_nil _ _) (by decide) _ _ h_conA).mono ?_; rintro e wz ⟨rfl, hb⟩; have BZ := Aside0.mk (below_step (by with_reducible exact Aside0.out (by assumption)) hb)))
  clear x0 x1 x2 x3 x4
  go_wp2_with fail
  obtain ⟨bm, cm⟩ := h_conB_mem wz
  have BM := Aside0.mk (below_step BZ.out bm)
  refine (h_print 60 conB none none (some ⟨wz.heap.size + 1 + 1, 0, none⟩) 0 0 2 0 0 2 rfl rfl rfl _ (HG.out.below BM.out) (HP.out.below BM.out) (Kd.C_nil _ _) (by decide) (Kd.C_nil _ _) (by decide) cm (by decide) _ _ h_conB).mono ?_
  clear bm cm
  rintro e wy ⟨rfl, hb⟩
  have BY := Aside0.mk (below_step BM.out hb)
  clear hb
  go_wp2_with fail
  go_ret
  exact ⟨rfl, BY.out⟩

-- IMPORT Derived.Outline Derived.Lib.SmallJoins
theorem big_l0 (s : ByteArray) (hs : s.size = 1000) (hd : ∀ i : Int, 0 ≤ i → i < 1000 → 48 ≤ bt s i ∧ bt s i ≤ 57) : ∀ (d : Nat) (k : Nat) (i : Int), 0 ≤ i → i ≤ 1000 → d = (1000 - i).toNat → d < k → integer_Check.l0 k s 1000 i = some 0 := by
  intro d
  induction d with
  | zero =>
    intro k i h0 h1 hd0 hk
    obtain ⟨k, rfl⟩ : ∃ m, k = m + 1 := ⟨k - 1, by omega⟩
    simp only [integer_Check.l0]
    rw [if_neg (by omega), if_neg (by rw [hs]; omega)]
  | succ d ih =>
    intro k i h0 h1 hd0 hk
    obtain ⟨k, rfl⟩ : ∃ m, k = m + 1 := ⟨k - 1, by omega⟩
    simp only [integer_Check.l0]
    have hb := hd i h0 (by omega)
    rw [if_pos (by omega), if_pos h0, if_pos (by rw [hs]; omega), if_neg (by omega), if_neg (by omega), show wrap64 (i + 1) = i + 1 by unfold wrap64; omega]
    exact ih k (i + 1) (by omega) (by omega) (by omega) (by omega)
theorem big_int (s : ByteArray) (hs : s.size = 1000) (hd : ∀ i : Int, 0 ≤ i → i < 1000 → 48 ≤ bt s i ∧ bt s i ≤ 57) (h0 : bt s 0 = 49) (k : Nat) (hk : 1010 ≤ k) : integer_Check.f k s = some 0 := by
  unfold integer_Check.f
  rw [if_pos (by rw [hs]; omega), if_pos (by rw [hs]; omega), h0]
  obtain ⟨k, rfl⟩ : ∃ m, k = m + 3 := ⟨k - 3, by omega⟩
  have hne : ¬ s.toList = [] := fun e => by
    have : s.toList.length = 0 := by rw [e]; rfl
    have h2 : s.toList.length = s.size := by rw [ByteArray.toList_eq]; simp
    omega
  simp only [integer_Check.j0]
  rw [if_neg (by decide)]
  simp only [integer_Check.j1]
  rw [if_neg hne, if_pos (by rw [hs]; omega), h0, if_neg (by decide)]
  simp only [integer_Check.j2]
  rw [if_neg (by decide), hs]
  exact big_l0 s hs hd 1000 k 0 (by omega) (by omega) (by omega) (by omega)
theorem big_rat (s : ByteArray) (hs : s.size = 1000) (hd : ∀ i : Int, 0 ≤ i → i < 1000 → 48 ≤ bt s i ∧ bt s i ≤ 57) (h0 : bt s 0 = 49) (hsl : slashAt s = -1) (k : Nat) (hk : 1020 ≤ k) : rational_Check.f k s = some 0 := by
  have hi := fun j hj => big_int s hs hd h0 j hj
  obtain ⟨k, rfl⟩ : ∃ m, k = m + 2 := ⟨k - 2, by omega⟩
  unfold rational_Check.f rational_split.f
  rw [if_pos (by omega), hsl, if_neg (by omega)]
  simp only [Option.bind_some]
  unfold rational_form.f
  rw [hi _ (by omega), Option.bind_some, if_neg (by decide), Option.bind_some, if_pos rfl, if_neg (by decide)]
  simp only [rational_Check.j0, rational_Check.j1, Bool.false_eq_true, if_false]
  rw [hi _ (by omega)]
  simp
/-- The sum of n + 1 such numbers. -/
def sumE (s : ByteArray) : Nat → S25
  | 0 => numE s
  | n + 1 => pairE 4 (sumE s n) (numE s)
def sumT (s : ByteArray) : Nat → List UInt8
  | 0 => toL s
  | n + 1 => sumT s n ++ (toL (signOf 4) ++ toL s)
theorem sumT_len (s : ByteArray) (hs : s.size = 1000) (n : Nat) : (sumT s n).length = 1000 + 1003 * n := by
  have h1 : (toL s).length = 1000 := by simp [toL, hs]
  have h2 : (toL (signOf 4)).length = 3 := rfl
  induction n with
  | zero => simpa [sumT] using h1
  | succ n ih => simp only [sumT, List.length_append, ih, h1, h2]; omega
theorem sum_kind (s : ByteArray) (n : Nat) : (sumE s n).f0 = 1 ∨ (sumE s n).f0 = 4 := by cases n <;> simp [sumE]
theorem sum_size (s : ByteArray) : observable_Size.f 1200 (sumE s 20).f0 (sumE s 20).f1 (sumE s 20).f2 (sumE s 20).f3 (sumE s 20).f4 = some 41 := by kernel_rfl
theorem sum_depth (s : ByteArray) : observable_depth.f 1200 (sumE s 20).f0 (sumE s 20).f1 (sumE s 20).f2 (sumE s 20).f3 (sumE s 20).f4 60 = some 21 := by kernel_rfl
theorem sum_text (s : ByteArray) : printer_expr.f 1200 (sumE s 20).f0 (sumE s 20).f1 (sumE s 20).f2 (sumE s 20).f3 (sumE s 20).f4 0 = some (sumT s 20) := by kernel_rfl
theorem sorted_num (s : ByteArray) (H : ∀ j, 1020 ≤ j → rational_Check.f j s = some 0) (k : Nat) (hk : 1021 ≤ k) : observable_sorted.f k (numE s).f0 (numE s).f1 (numE s).f2 (numE s).f3 (numE s).f4 = some 1 := by
  obtain ⟨k, rfl⟩ : ∃ m, k = m + 1 := ⟨k - 1, by omega⟩
  simp only [observable_sorted.f]
  rw [if_pos (by decide), if_neg (by decide)]
  unfold observable_leaf.f
  rw [if_pos rfl, if_pos rfl, H _ (by omega)]
  simp
theorem sorted_sum (s : ByteArray) (H : ∀ j, 1020 ≤ j → rational_Check.f j s = some 0) (n : Nat) : ∀ k, 1021 + 5 * n ≤ k → observable_sorted.f k (sumE s n).f0 (sumE s n).f1 (sumE s n).f2 (sumE s n).f3 (sumE s n).f4 = some 1 := by
  induction n with
  | zero => intro k hk; exact sorted_num s H k (by omega)
  | succ n ih =>
    intro k hk
    obtain ⟨k, rfl⟩ : ∃ m, k = m + 4 := ⟨k - 4, by omega⟩
    simp only [sumE, observable_sorted.f]
    have hem : (⟨#[]⟩ : ByteArray).toList = [] := by simp
    rw [if_pos (by decide), if_pos (by decide), if_pos (show [sumE s n, numE s].length = (shP 4).length from rfl), if_pos hem, if_pos hem, if_pos trivial]
    have e0 : rd_T25 [sumE s n, numE s] 0 = sumE s n := rfl
    have e1 : rd_T25 [sumE s n, numE s] (0 + 1) = numE s := rfl
    simp only [observable_sorted.l0]
    have l0 : (0 : Int) < (([sumE s n, numE s].length : Nat) : Int) := by show (0 : Int) < 2; decide
    have l1 : (0 : Int) + 1 < (([sumE s n, numE s].length : Nat) : Int) := by show (0 : Int) + 1 < 2; decide
    have l2 : ¬ (0 : Int) + 1 + 1 < (([sumE s n, numE s].length : Nat) : Int) := by show ¬ (0 : Int) + 1 + 1 < 2; decide
    rw [if_pos l0, e0, ih (k + 2) (by omega)]
    simp only [Option.bind_some]
    rw [if_pos (by decide), if_pos l1, e1, sorted_num s H (k + 1) (by omega)]
    simp only [Option.bind_some]
    rw [if_pos (by decide), if_neg l2]
    rfl
theorem sum_many (s : ByteArray) (hs : s.size = 1000) (H : ∀ j, 1020 ≤ j → rational_Check.f j s = some 0) : printer_PrintExpr.f 1200 (sumE s 20).f0 (sumE s 20).f1 (sumE s 20).f2 (sumE s 20).f3 (sumE s 20).f4 = some (⟨#[]⟩, 4) := by
  unfold printer_PrintExpr.f observable_Check.f
  rw [sum_size, Option.bind_some, if_neg (by decide), sum_depth, Option.bind_some, if_neg (by decide), sorted_sum s H 20 1200 (by omega), Option.bind_some, if_neg (by decide), Option.bind_some, if_pos rfl, sum_text, Option.bind_some]
  have hl := sumT_len s hs 20
  rw [if_pos (by omega)]
  unfold printer_text.f
  have hne : ¬ sumT s 20 = [] := fun e => by rw [e] at hl; simp at hl
  rw [if_neg hne, if_pos (by omega)]
/-- "1" and 999 digits 0. -/
def zerosL : List Int := List.replicate 999 48
def bigS : ByteArray := ⟨#[49]⟩ ++ strOfNums zerosL
theorem data_rep (n : Nat) : ((⟨#[49]⟩ : ByteArray) ++ strOfNums (List.replicate n 48)).data.toList = 49 :: List.replicate n 48 := by
  unfold strOfNums
  rw [Go.Joins.data_append]
  simp
theorem bigS_data : bigS.data.toList = 49 :: List.replicate 999 48 := data_rep 999
theorem bigS_size : bigS.size = 1000 := by
  have := congrArg List.length bigS_data
  simp only [Array.length_toList, List.length_cons, List.length_replicate] at this
  exact this
theorem bigS_bt (i : Int) (h0 : 0 ≤ i) (h1 : i < 1000) : bt bigS i = if i = 0 then 49 else 48 := by
  have hl : i.toNat < bigS.size := by rw [bigS_size]; omega
  unfold bt
  rw [dif_pos hl]
  have e : bigS[i.toNat] = (49 :: List.replicate 999 48 : List UInt8)[i.toNat]'(by rw [List.length_cons, List.length_replicate]; omega) := by
    have h2 : bigS[i.toNat] = bigS.data.toList[i.toNat]'(by simpa using hl) := rfl
    rw [h2]
    exact List.getElem_of_eq bigS_data _
  rw [e]
  by_cases hi : i = 0
  · subst hi; rfl
  · rw [if_neg hi]
    obtain ⟨j, hj⟩ : ∃ j, i.toNat = j + 1 := ⟨i.toNat - 1, by omega⟩
    simp only [hj, List.getElem_cons_succ, List.getElem_replicate]
    rfl
theorem indexByte_no (l : List UInt8) (c : UInt8) (h : ∀ b ∈ l, (b == c) = false) : Go.Lib.indexByte l c = -1 := by
  induction l with
  | nil => rfl
  | cons b l ih =>
    unfold Go.Lib.indexByte
    rw [h b (by simp), ih (fun x hx => h x (by simp [hx]))]
    rfl
theorem bigS_slash : slashAt bigS = -1 := by
  unfold slashAt
  rw [bigS_data]
  refine indexByte_no _ _ fun b hb => ?_
  rcases List.mem_cons.mp hb with rfl | hb
  · rfl
  · obtain rfl := List.eq_of_mem_replicate hb
    rfl
theorem bigS_many : printer_PrintExpr.f 1200 (sumE bigS 20).f0 (sumE bigS 20).f1 (sumE bigS 20).f2 (sumE bigS 20).f3 (sumE bigS 20).f4 = some (⟨#[]⟩, 4) :=
  sum_many bigS bigS_size fun j hj => big_rat bigS bigS_size (fun i h0 h1 => by rw [bigS_bt i h0 h1]; split <;> omega) (bigS_bt 0 (by omega) (by omega)) bigS_slash j hj
theorem zeros_l0 : ∀ (d k : Nat) (i : Nat), i ≤ 999 → d = 999 - i → d < k → novationlaw14_zeros.l0 k 999 (List.replicate i 48 ++ List.replicate (999 - i) 0) i = some (List.replicate 999 48) := by
  intro d
  induction d with
  | zero =>
    intro k i h1 hd hk
    obtain ⟨k, rfl⟩ : ∃ m, k = m + 1 := ⟨k - 1, by omega⟩
    obtain rfl : i = 999 := by omega
    simp only [novationlaw14_zeros.l0]
    rw [if_neg (by omega), Nat.sub_self, List.replicate_zero, List.append_nil]
  | succ d ih =>
    intro k i h1 hd hk
    obtain ⟨k, rfl⟩ : ∃ m, k = m + 1 := ⟨k - 1, by omega⟩
    simp only [novationlaw14_zeros.l0]
    have hl : (List.replicate i (48 : Int) ++ List.replicate (999 - i) 0).length = 999 := by simp; omega
    rw [if_pos (by omega), if_pos (by omega), if_pos (by rw [hl]; omega), show wrap64 ((i : Int) + 1) = ((i + 1 : Nat) : Int) by unfold wrap64; omega]
    have e : (List.replicate i (48 : Int) ++ List.replicate (999 - i) 0).set ((i : Int)).toNat 48 = List.replicate (i + 1) 48 ++ List.replicate (999 - (i + 1)) 0 := by
      rw [Int.toNat_natCast, List.set_append_right _ _ (by simp), List.length_replicate, Nat.sub_self]
      obtain ⟨m, hm⟩ : ∃ m, 999 - i = m + 1 := ⟨998 - i, by omega⟩
      rw [hm, List.replicate_succ, List.set_cons_zero, show 999 - (i + 1) = m by omega, List.replicate_succ' (n := i), List.append_assoc]
      rfl
    rw [e]
    exact ih k (i + 1) (by omega) (by omega) (by omega)
theorem h_zeros : novationlaw14_zeros.f 1100 999 = some zerosL := by
  unfold novationlaw14_zeros.f
  rw [if_pos (by decide), if_pos (by decide)]
  exact zeros_l0 999 1100 0 (by omega) (by omega) (by omega)
theorem strOfNums_size (xs : List Int) : (strOfNums xs).size = xs.length := by unfold strOfNums; simp [ByteArray.size]
theorem zerosL_size : (strOfNums zerosL).size = 999 := (strOfNums_size zerosL).trans (List.length_replicate (n := 999))
/-- What a row of expressions reads as, whatever lies in block n. -/
def FreeC (n : Nat) (w : World) (A : Option Addr) (xs : List S25) : Prop := ∀ W' : World, (∀ (k : Nat) (o : Obj), k ≠ n → w.heap[k]? = some o → W'.heap[k]? = some o) → Kd.C k25 W' A xs.length xs
theorem FreeC.now {n : Nat} {w : World} {A : Option Addr} {xs : List S25} (h : FreeC n w A xs) : Kd.C k25 w A xs.length xs := h w fun _ _ _ h => h
/-- What the loop over the sum holds. -/
def SumSt (i n22 n23 : Nat) (W w' : World) : Prop := ∃ A c, (sumE bigS i).f4.length ≤ c ∧ w'.heap[n23]? = some (.cells #[.int .u8 (sumE bigS i).f0, .string (sumE bigS i).f1, .string (sumE bigS i).f2, .int .i64 (sumE bigS i).f3, .slice A (sumE bigS i).f4.length c] 25 (0, 0)) ∧
  w'.heap[n22]? = some (.cells #[.int .u8 1, .string bigS, .string ⟨#[]⟩, .int .i64 0, .slice none 0 0] 25 (0, 0)) ∧ FreeC n23 w' A (sumE bigS i).f4 ∧ Below W.heap.size W w' ∧ W.heap.size ≤ n23
theorem sum_step (i n22 n23 : Nat) (W5 wr w1 : World) (A : Option Addr) (c b : Nat) (v0 v1 v2 v3 v4 : Value) (hne : n22 ≠ n23) (h23 : W5.heap.size ≤ n23) (hc : (sumE bigS i).f4.length ≤ c) (hn : n23 < wr.heap.size) (KA1 : w1.heap[n23]? = some (.cells #[v0, v1, v2, v3, v4] 25 (0, 0)))
    (KB1 : w1.heap[n22]? = some (.cells #[.int .u8 1, .string bigS, .string ⟨#[]⟩, .int .i64 0, .slice none 0 0] 25 (0, 0)))
    (HB1 : w1.heap[b]? = some (.cells #[.int .u8 (sumE bigS i).f0, .string (sumE bigS i).f1, .string (sumE bigS i).f2, .int .i64 (sumE bigS i).f3, .slice A (sumE bigS i).f4.length c, .int .u8 1, .string bigS, .string ⟨#[]⟩, .int .i64 0, .slice none 0 0] 25 (0, 0)))
    (hle : wr.heap.size ≤ b) (HF : FreeC n23 wr A (sumE bigS i).f4) (hl : Below wr.heap.size wr w1) (hB : Below W5.heap.size W5 wr) :
    SumSt (i + 1) n22 n23 W5 (((((w1.setCell ⟨n23, 0, none⟩ (.int .u8 4)).setCell ⟨n23, 1, none⟩ (.string ⟨#[]⟩)).setCell ⟨n23, 2, none⟩ (.string ⟨#[]⟩)).setCell ⟨n23, 3, none⟩ (.int .i64 0)).setCell ⟨n23, 4, none⟩ (.slice (some ⟨b, 0, none⟩) 2 2)) := by
  have s0 := blk_set KA1 0 (.int .u8 4)
  have s1 := blk_set s0 1 (.string ⟨#[]⟩)
  have s2 := blk_set s1 2 (.string ⟨#[]⟩)
  have s3 := blk_set s2 3 (.int .i64 0)
  have s4 := blk_set s3 4 (.slice (some ⟨b, 0, none⟩) 2 2)
  have hoth : ∀ k, k ≠ n23 → (((((w1.setCell ⟨n23, 0, none⟩ (.int .u8 4)).setCell ⟨n23, 1, none⟩ (.string ⟨#[]⟩)).setCell ⟨n23, 2, none⟩ (.string ⟨#[]⟩)).setCell ⟨n23, 3, none⟩ (.int .i64 0)).setCell ⟨n23, 4, none⟩ (.slice (some ⟨b, 0, none⟩) 2 2)).heap[k]? = w1.heap[k]? := fun k hk => by
    rw [Below.heap_setCell _ _ _ _ hk, Below.heap_setCell _ _ _ _ hk, Below.heap_setCell _ _ _ _ hk, Below.heap_setCell _ _ _ _ hk, Below.heap_setCell _ _ _ _ hk]
  refine ⟨some ⟨b, 0, none⟩, 2, Nat.le_refl _, ?_, (hoth n22 hne).trans KB1, fun W' hW => ?_, ?_, h23⟩
  · have s5 : (((((w1.setCell ⟨n23, 0, none⟩ (.int .u8 4)).setCell ⟨n23, 1, none⟩ (.string ⟨#[]⟩)).setCell ⟨n23, 2, none⟩ (.string ⟨#[]⟩)).setCell ⟨n23, 3, none⟩ (.int .i64 0)).setCell ⟨n23, 4, none⟩ (.slice (some ⟨b, 0, none⟩) 2 2)).heap[n23]? = some (.cells #[.int .u8 4, .string ⟨#[]⟩, .string ⟨#[]⟩, .int .i64 0, .slice (some ⟨b, 0, none⟩) 2 2] 25 (0, 0)) := by simpa using s4
    exact s5
  · have hW1 : ∀ (k : Nat) (o : Obj), k ≠ n23 → w1.heap[k]? = some o → W'.heap[k]? = some o := fun k o hk ho => hW k o hk ((hoth k hk).trans ho)
    have hbn : b ≠ n23 := by omega
    exact h_C_pair (sumE bigS i) (numE bigS) (n := (sumE bigS i).f4.length) (m := 0) (d := 0) rfl rfl (hW1 b _ hbn HB1) (HF W' fun k o hk ho => hW1 k o hk (blk_below ho hl)) hc (Kd.C_nil _ _) (Nat.le_refl _)
  · exact (((((hB.trans (hl.mono hB.size)).setCell (p := ⟨n23, 0, none⟩) h23 _).setCell (p := ⟨n23, 1, none⟩) h23 _).setCell (p := ⟨n23, 2, none⟩) h23 _).setCell (p := ⟨n23, 3, none⟩) h23 _).setCell (p := ⟨n23, 4, none⟩) h23 _

end Go.Proofs.YtalaekadkjhldaaDoor.Pr
