/- A part of the proof of the statement PrinterNames (the printer's examples, further texts and errors): contracts of functions of the program, proved by walking their text. -/
import Derived.Test.YtalaekadkjhldaaDoorPn0
import Derived.Test.YtalaekadkjhldaaDoorPn1
import Derived.Test.YtalaekadkjhldaaDoorPn2
import Derived.Test.YtalaekadkjhldaaDoorPn3
import Derived.Test.YtalaekadkjhldaaDoorPn4
import Derived.Test.YtalaekadkjhldaaDoorPn5
import Derived.Test.YtalaekadkjhldaaDoorPn6
import Derived.Outline
import Derived.Deep.RegionHeld3
import Derived.Deep.LoopGhost
import Derived.Test.YtalaekadkjhldaaDoorShelf
import Derived.Test.YtalaekadkjhldaaDoorHa
import Derived.Test.YtalaekadkjhldaaDoorHb
import Derived.Test.YtalaekadkjhldaaDoorHc
import Derived.Test.YtalaekadkjhldaaDoorHd
import Derived.Test.YtalaekadkjhldaaDoorHe
import Derived.Test.YtalaekadkjhldaaDoorHk
namespace Go.Proofs.YtalaekadkjhldaaDoor.Pr
open Go.RowKit Go.Proofs.YtalaekadkjhldaaDoorW.PrintWords Go.Proofs.YtalaekadkjhldaaDoorW.PrintLast Go.Proofs.YtalaekadkjhldaaDoorW.PrintMore
attribute [local go_sem] max2_int min2_int max_two min_two max_three min_three max_four min_four
set_option linter.unusedVariables false
set_option linter.unusedSimpArgs false
-- IMPORT Derived.Outline Derived.Deep.RegionHeld3 Derived.Deep.LoopGhost
/-- What stands while contract runs: the writer, the box of o (B3), the box of c (B4), the words, what came in. -/
structure CtrAt (w0 W : World) (x : Nd0 w0) (B3 B4 g mb : Nat) (v : Value) (om : Obj) (l : List UInt8) : Prop where
  O : OutAt w0.heap.size W g v mb l
  K3 : W.heap[B3]? = some (.cells #[.pointer (some ⟨g, 0, none⟩)] 47 (0, 0))
  K4 : W.heap[B4]? = some (.cells x.cells 29 (0, 0))
  n3 : B3 ≠ g
  n4 : B4 ≠ g
  o3 : v.ownBlock ≠ some B3
  o4 : v.ownBlock ≠ some B4
  M : W.heap[mb]? = some om
  B : Below w0.heap.size w0 W
theorem CtrAt.step {w0 W W' : World} {x : Nd0 w0} {B3 B4 g mb : Nat} {v v' : Value} {om : Obj} {l l' : List UInt8} (h : CtrAt w0 W x B3 B4 g mb v om l) (h' : OutAt w0.heap.size W' g v' mb l') (hr : OutR g W v W' v') (hw : WordsOK mb om) : CtrAt w0 W' x B3 B4 g mb v' om l' :=
  ⟨h', hr.blk h.K3 h.n3 h.o3, hr.blk h.K4 h.n4 h.o4, h.n3, h.n4, hr.off (blk_lt h.K3) h.o3, hr.off (blk_lt h.K4) h.o4, h_map_keep h.O hr h.M hw, h.B.trans (h.O.step hr)⟩
theorem CtrAt.below {w0 W W' : World} {x : Nd0 w0} {B3 B4 g mb : Nat} {v : Value} {om : Obj} {l : List UInt8} (h : CtrAt w0 W x B3 B4 g mb v om l) (hb : Below W.heap.size W W') : CtrAt w0 W' x B3 B4 g mb v om l :=
  ⟨h.O.below hb, blk_below h.K3 hb, blk_below h.K4 hb, h.n3, h.n4, h.o3, h.o4, blk_below h.M hb, below_step h.B hb⟩
theorem CtrAt.start {w0 w : World} (x : Nd0 w0) {g mb : Nat} {v : Value} {om : Obj} {l : List UInt8} (h : OutAt w0.heap.size w g v mb l) (hm : w.heap[mb]? = some om) (hB : Below w0.heap.size w0 w) :
    CtrAt w0 ((w.alloc (.cells #[.pointer (some ⟨g, 0, none⟩)] 47)).alloc (.cells x.cells 29)) x w.heap.size (w.heap.size + 1) g mb v om l := by
  have b1 := below_alloc (Below.refl w.heap.size w) (.cells #[.pointer (some ⟨g, 0, none⟩)] 47)
  have k1 := blk_new w (.cells #[.pointer (some ⟨g, 0, none⟩)] 47)
  have b2 := below_alloc (Below.refl (w.alloc (.cells #[.pointer (some ⟨g, 0, none⟩)] 47)).heap.size (w.alloc (.cells #[.pointer (some ⟨g, 0, none⟩)] 47))) (.cells x.cells 29)
  have k2 := blk_new (w.alloc (.cells #[.pointer (some ⟨g, 0, none⟩)] 47)) (.cells x.cells 29)
  obtain ⟨fg, fv⟩ := h_fresh h
  obtain ⟨fg2, fv2⟩ := h_fresh (h.below b1)
  have e : (w.alloc (.cells #[.pointer (some ⟨g, 0, none⟩)] 47)).heap.size = w.heap.size + 1 := by simp
  exact ⟨(h.below b1).below b2, blk_below k1 b2, by rw [← e]; exact k2, fg, by rw [← e]; exact fg2, fv, by rw [← e]; exact fv2, blk_below (blk_below hm b1) b2, below_step (below_step hB b1) b2⟩
theorem CtrAt.box {w0 W : World} {x : Nd0 w0} {B3 B4 g mb : Nat} {v : Value} {om : Obj} {l : List UInt8} (h : CtrAt w0 W x B3 B4 g mb v om l) : W.cell? ⟨B3, 0, none⟩ = some (.pointer (some ⟨g, 0, none⟩)) := (blk_cell h.K3 0).trans rfl
theorem CtrAt.cells {w0 W : World} {x : Nd0 w0} {B3 B4 g mb : Nat} {v : Value} {om : Obj} {l : List UInt8} (h : CtrAt w0 W x B3 B4 g mb v om l) :
    W.cell? ⟨B3, 0, none⟩ = some (.pointer (some ⟨g, 0, none⟩)) ∧ W.cell? ⟨B4, 0, none⟩ = some (.int .u8 x.c.f0) ∧ W.cell? ⟨B4, 1, none⟩ = some (.string x.c.f1) ∧ W.cell? ⟨B4, 2, none⟩ = some (.string x.c.f2) ∧ W.cell? ⟨B4, 3, none⟩ = some (.string x.c.f3) ∧ W.cell? ⟨B4, 4, none⟩ = some (.int .u8 x.c.f4.f0) ∧ W.cell? ⟨B4, 5, none⟩ = some (.string x.c.f4.f1) ∧ W.cell? ⟨B4, 6, none⟩ = some (.string x.c.f4.f2) ∧ W.cell? ⟨B4, 7, none⟩ = some (.int .i64 x.c.f4.f3) ∧ W.cell? ⟨B4, 8, none⟩ = some (.slice x.A8 x.c.f4.f4.length x.c8) ∧ W.cell? ⟨B4, 9, none⟩ = some (.int .i64 x.c.f5) ∧ W.cell? ⟨B4, 10, none⟩ = some (.slice x.A10 x.c.f6.length x.c10) ∧ W.cell? ⟨B4, 11, none⟩ = some (.slice x.A11 x.c.f7.length x.c11) := by
  have h4 := h.K4
  unfold Nd.cells at h4
  obtain ⟨x0, x1, x2, x3, x4, x5, x6, x7, x8, x9, x10, x11⟩ := h_box12 h4
  exact ⟨h.box, x0, x1, x2, x3, x4, x5, x6, x7, x8, x9, x10, x11⟩
/-- The i-th part, as a value. -/
theorem Nd0.sub {w0 : World} (x : Nd0 w0) (i : Int) (h0 : 0 ≤ i) (h1 : i < (x.c.f7.length : Int)) : ∃ (y : Nd0 w0) (ad : Addr), x.A11 = some ad ∧ y.c = rd_T29 x.c.f7 i ∧ (w0.cell? (ad.add (i.toNat * 12)) = some (.int .u8 y.c.f0) ∧ w0.cell? ⟨(ad.add (i.toNat * 12)).block, (ad.add (i.toNat * 12)).off + 1, none⟩ = some (.string y.c.f1) ∧ w0.cell? ⟨(ad.add (i.toNat * 12)).block, (ad.add (i.toNat * 12)).off + 2, none⟩ = some (.string y.c.f2) ∧ w0.cell? ⟨(ad.add (i.toNat * 12)).block, (ad.add (i.toNat * 12)).off + 3, none⟩ = some (.string y.c.f3) ∧
    w0.cell? ⟨(ad.add (i.toNat * 12)).block, (ad.add (i.toNat * 12)).off + 4, none⟩ = some (.int .u8 y.c.f4.f0) ∧ w0.cell? ⟨(ad.add (i.toNat * 12)).block, (ad.add (i.toNat * 12)).off + 5, none⟩ = some (.string y.c.f4.f1) ∧ w0.cell? ⟨(ad.add (i.toNat * 12)).block, (ad.add (i.toNat * 12)).off + 6, none⟩ = some (.string y.c.f4.f2) ∧ w0.cell? ⟨(ad.add (i.toNat * 12)).block, (ad.add (i.toNat * 12)).off + 7, none⟩ = some (.int .i64 y.c.f4.f3) ∧ w0.cell? ⟨(ad.add (i.toNat * 12)).block, (ad.add (i.toNat * 12)).off + 8, none⟩ = some (.slice y.A8 y.c.f4.f4.length y.c8) ∧
    w0.cell? ⟨(ad.add (i.toNat * 12)).block, (ad.add (i.toNat * 12)).off + 9, none⟩ = some (.int .i64 y.c.f5) ∧ w0.cell? ⟨(ad.add (i.toNat * 12)).block, (ad.add (i.toNat * 12)).off + 10, none⟩ = some (.slice y.A10 y.c.f6.length y.c10) ∧ w0.cell? ⟨(ad.add (i.toNat * 12)).block, (ad.add (i.toNat * 12)).off + 11, none⟩ = some (.slice y.A11 y.c.f7.length y.c11)) := by
  obtain ⟨ad, A8, c8, A10, c10, A11, c11, e5, p0, p1, p2, p3, p4, p5, p6, p7, p8, p9, p10, p11, q8, g8, q10, g10, q11, g11⟩ := at_T29 x.r11 i h0 h1
  exact ⟨⟨rd_T29 x.c.f7 i, trivial, A8, c8, A10, c10, A11, c11, g8, q8, g10, q10, g11, q11⟩, ad, e5, rfl, p0, p1, p2, p3, p4, p5, p6, p7, p8, p9, p10, p11⟩
theorem h_own_old {B : Nat} {w : World} {g mb : Nat} {v : Value} {l : List UInt8} {b : Nat} (h : OutAt B w g v mb l) (hb : b < B) : b ≠ g ∧ v.ownBlock ≠ some b :=
  ⟨fun e => by have := h.ge; omega, fun e => by have := own_base h.own b e; omega⟩
/-- All the parts. -/
theorem Nd0.subs {w0 W : World} (x : Nd0 w0) {g mb : Nat} {v : Value} {l : List UInt8} (hB : Below w0.heap.size w0 W) (h : OutAt w0.heap.size W g v mb l) : ∃ xs : List (Nd0 w0), xs.map (·.c) = x.c.f7 ∧ SubsAt w0 W g v x.A11 xs := by
  have hm := Kd.C_len_le x.r11
  have hs := fun i : Fin x.c.f7.length => x.sub i.val (by omega) (by have := i.isLt; omega)
  obtain ⟨f, hf⟩ := Classical.skolem.mp hs
  refine ⟨List.ofFn f, ?_, ⟨by simpa using hm, fun i hi => ?_⟩⟩
  · refine List.ext_getElem (by simp) fun i h1 h2 => ?_
    simp only [List.getElem_map, List.getElem_ofFn]
    obtain ⟨_, _, e, _⟩ := hf ⟨i, h2⟩
    refine e.trans ?_
    simp [rd_T29, List.getD_eq_getElem?_getD, List.getElem?_eq_getElem h2]
  · have hi2 : i < x.c.f7.length := by simpa using hi
    obtain ⟨ad, e, _, p0, p1, p2, p3, p4, p5, p6, p7, p8, p9, p10, p11⟩ := hf ⟨i, hi2⟩
    have hlt := World.block_lt_of_cell? _ _ p0
    rw [h_add_block] at hlt
    obtain ⟨n1, n2⟩ := h_own_old h hlt
    simp only [List.getElem_ofFn]
    refine ⟨ad, e, Nat.lt_of_lt_of_le hlt hB.size, n1, n2, pw_cell_below hB p0, fun j j1 j2 => ?_⟩
    have : j = 1 ∨ j = 2 ∨ j = 3 ∨ j = 4 ∨ j = 5 ∨ j = 6 ∨ j = 7 ∨ j = 8 ∨ j = 9 ∨ j = 10 ∨ j = 11 := by omega
    rcases this with rfl | rfl | rfl | rfl | rfl | rfl | rfl | rfl | rfl | rfl | rfl
    · exact pw_cell_below hB p1
    · exact pw_cell_below hB p2
    · exact pw_cell_below hB p3
    · exact pw_cell_below hB p4
    · exact pw_cell_below hB p5
    · exact pw_cell_below hB p6
    · exact pw_cell_below hB p7
    · exact pw_cell_below hB p8
    · exact pw_cell_below hB p9
    · exact pw_cell_below hB p10
    · exact pw_cell_below hB p11
/-- One part, in a row of its own. -/
theorem h_subs_one {w0 W : World} (y : Nd0 w0) {g mb : Nat} {v : Value} {l : List UInt8} (h : OutAt w0.heap.size W g v mb l) : SubsAt w0 (W.alloc (.cells y.cells 29)) g v (some ⟨W.heap.size, 0, none⟩) [y] := by
  refine ⟨by simp, fun i hi => ?_⟩
  have e : i = 0 := by simpa using hi
  subst e
  obtain ⟨fg, fv⟩ := h_fresh h
  refine ⟨_, rfl, by simp, fg, fv, ?_, fun j j1 j2 => ?_⟩
  · have := blk_cell (blk_new W (.cells y.cells 29)) 0
    exact this.trans rfl
  · have := blk_cell (blk_new W (.cells y.cells 29)) j
    have e2 : (0 : Nat) + j = j := by omega
    show World.cell? _ ⟨W.heap.size, 0 + 0 * 12 + j, none⟩ = _
    rw [show 0 + 0 * 12 + j = j by omega]
    refine this.trans ?_
    have : j = 1 ∨ j = 2 ∨ j = 3 ∨ j = 4 ∨ j = 5 ∨ j = 6 ∨ j = 7 ∨ j = 8 ∨ j = 9 ∨ j = 10 ∨ j = 11 := by omega
    rcases this with rfl | rfl | rfl | rfl | rfl | rfl | rfl | rfl | rfl | rfl | rfl <;> rfl
theorem CtrAt.five {w0 W : World} {x : Nd0 w0} {B3 B4 g mb : Nat} {v : Value} {om : Obj} {l : List UInt8} (h : CtrAt w0 W x B3 B4 g mb v om l) :
    W.cell? ⟨B3, 0, none⟩ = some (.pointer (some ⟨g, 0, none⟩)) ∧ W.cell? ⟨B4, 1, none⟩ = some (.string x.c.f1) ∧ W.cell? ⟨B4, 2, none⟩ = some (.string x.c.f2) ∧ W.cell? ⟨B4, 3, none⟩ = some (.string x.c.f3) ∧ W.cell? ⟨B4, 9, none⟩ = some (.int .i64 x.c.f5) := by
  obtain ⟨y3, x0, x1, x2, x3, x4, x5, x6, x7, x8, x9, x10, x11⟩ := h.cells
  exact ⟨y3, x1, x2, x3, x9⟩
def SubSt (kq : Nat) {w0 : World} (x : Nd0 w0) (i d : Int) (r : List UInt8) (w0' w w' : World) (B3 B4 g mb : Nat) (v : Value) (om : Obj) (lt : List UInt8) : Prop :=
  ∃ pre rest v', subL kq x.c.f7 d i = some rest ∧ pre ++ rest = r ∧ CtrAt w0 w' x B3 B4 g mb v' om (lt ++ pre) ∧ OutR g w v w' v'
def untD : DataW Unit := (DataW.put (DataW.put (.map []) (.bool true) (.lit (.string (⟨#[117, 110, 116, 105, 108, 32]⟩ : ByteArray).data.toList))) (.bool false) (.lit (.string (⟨#[119, 104, 101, 110, 32]⟩ : ByteArray).data.toList)))
theorem untD_true : untD.atKey (.bool true) (.lit (.string [])) = .lit (.string (⟨#[117, 110, 116, 105, 108, 32]⟩ : ByteArray).data.toList) := by kernel_rfl
theorem untD_false : untD.atKey (.bool false) (.lit (.string [])) = .lit (.string (⟨#[119, 104, 101, 110, 32]⟩ : ByteArray).data.toList) := by kernel_rfl
def elsD : DataW Unit := (DataW.put (DataW.put (.map []) (.bool true) (.lit (.string (⟨#[32]⟩ : ByteArray).data.toList))) (.bool false) (.lit (.string (⟨#[32, 101, 108, 115, 101, 32]⟩ : ByteArray).data.toList)))
def elsOf (b : Bool) : ByteArray := if b then ⟨#[32]⟩ else ⟨#[32, 101, 108, 115, 101, 32]⟩
theorem elsD_on (b : Bool) : elsD.atKey (.bool b) (.lit (.string [])) = .lit (.string (elsOf b).data.toList) := by cases b <;> kernel_rfl

-- IMPORT Derived.Outline Derived.Deep.RegionHeld3 Derived.Deep.LoopGhost
set_option maxHeartbeats 16000000 in
set_option maxRecDepth 100000 in
theorem h_ctr_1 (k : Nat) (ih : ∀ m, m < k → CtrSaid m) (w0 w : World) (x : Nd0 w0) (hk : x.c.f0 = 1) (d : Int) (g mb : Nat) (v : Value) (om : Obj) (l : List UInt8) 
    (hd0 : 0 ≤ d) (hd1 : d ≤ 900) (hB : Below w0.heap.size w0 w) (h : OutAt w0.heap.size w g v mb l) (hm : w.heap[mb]? = some om) (hw : WordsOK mb om) (hlen : l.length + [110, 111, 116, 104, 105, 110, 103].length + 4000 ≤ 140737488355328) :
    Calls Tryd.prog 20 #[.pointer (some ⟨g, 0, none⟩), .agg x.cells, .int .i64 d] w fun e w' => e = .returned (.tuple #[]) ∧ ∃ v', OutAt w0.heap.size w' g v' mb (l ++ [110, 111, 116, 104, 105, 110, 103]) ∧ OutR g w v w' v' := by
  have c0 := CtrAt.start x h hm hB
  have r0 : OutR g w v ((w.alloc (.cells #[.pointer (some ⟨g, 0, none⟩)] 47)).alloc (.cells x.cells 29)) v := OutR.of_below (below_step (below_alloc (Below.refl _ _) _) (below_alloc (Below.refl _ _) _))
  have HW := Aside0.mk hw
  have HL := Aside0.mk hlen
  have IH := Aside0.mk ih
  have hr8 := Aside0.mk x.r8
  have hlm : x.c.f7.length ≤ 9223372036854775807 := Kd.C_len_le x.r11
  unfold Nd.cells at c0 r0 ⊢
  rw [hk] at c0 r0 ⊢
  have C0 := Aside0.mk c0
  have R0 := Aside0.mk r0
  have HK := Aside0.mk hk
  obtain ⟨y3, x0, x1, x2, x3, x4, x5, x6, x7, x8, x9, x10, x11⟩ := C0.out.cells
  rw [hk] at x0
  clear c0 r0 hk h hm hB hw hlen ih 
  go_enter Tryd.func20, Tryd.ntmps20
  go_wp2_with fail
  refine (h_put_at w0.heap.size g mb v _ [⟨#[110, 111, 116, 104, 105, 110, 103]⟩] _ 1 _ _ (by simp) C0.out.O rfl rfl (by have := HL.out; simp at this ⊢; omega) (by simp)).mono ?_
  rintro e w1 ⟨rfl, v1, h1, r1⟩
  have C1 := Aside0.mk (C0.out.step h1 r1 HW.out)
  have R1 := Aside0.mk (R0.out.trans r1)
  clear h1 r1 y3 x0 x1 x2 x3 x4 x5 x6 x7 x8 x9 x10 x11
  obtain ⟨y3, x0, x1, x2, x3, x4, x5, x6, x7, x8, x9, x10, x11⟩ := C1.out.cells
  rw [HK.out] at x0
  go_wp2_with fail
  exact bodyPost_ret (v := .tuple #[]) (by simp [results, Tryd.results20, go_sem]) rfl ⟨rfl, v1, by simpa using C1.out.O, R1.out⟩
set_option maxHeartbeats 16000000 in
set_option maxRecDepth 100000 in
theorem h_ctr_2 (k : Nat) (ih : ∀ m, m < k → CtrSaid m) (w0 w : World) (x : Nd0 w0) (hk : x.c.f0 = 2) (d : Int) (g mb : Nat) (v : Value) (om : Obj) (l : List UInt8) (n1 : ByteArray) (hn1 : printer_name.f k x.c.f1 = some n1) (te : List UInt8) (hte : printer_expr.f k x.c.f4.f0 x.c.f4.f1 x.c.f4.f2 x.c.f4.f3 x.c.f4.f4 0 = some te) (n3 : ByteArray) (hn3 : printer_name.f k x.c.f3 = some n3) (n2 : ByteArray) (hn2 : printer_name.f k x.c.f2 = some n2)
    (hd0 : 0 ≤ d) (hd1 : d ≤ 900) (hB : Below w0.heap.size w0 w) (h : OutAt w0.heap.size w g v mb l) (hm : w.heap[mb]? = some om) (hw : WordsOK mb om) (hlen : l.length + ((toL n1 ++ [32, 112, 97, 121, 115, 32]) ++ (te ++ ([32] ++ (toL n3 ++ ([32, 116, 111, 32] ++ toL n2))))).length + 4000 ≤ 140737488355328) :
    Calls Tryd.prog 20 #[.pointer (some ⟨g, 0, none⟩), .agg x.cells, .int .i64 d] w fun e w' => e = .returned (.tuple #[]) ∧ ∃ v', OutAt w0.heap.size w' g v' mb (l ++ ((toL n1 ++ [32, 112, 97, 121, 115, 32]) ++ (te ++ ([32] ++ (toL n3 ++ ([32, 116, 111, 32] ++ toL n2)))))) ∧ OutR g w v w' v' := by
  have c0 := CtrAt.start x h hm hB
  have r0 : OutR g w v ((w.alloc (.cells #[.pointer (some ⟨g, 0, none⟩)] 47)).alloc (.cells x.cells 29)) v := OutR.of_below (below_step (below_alloc (Below.refl _ _) _) (below_alloc (Below.refl _ _) _))
  have HW := Aside0.mk hw
  have HL := Aside0.mk hlen
  have IH := Aside0.mk ih
  have Hn1 := Aside0.mk hn1
  have Hte := Aside0.mk hte
  have Hn3 := Aside0.mk hn3
  have Hn2 := Aside0.mk hn2
  have hr8 := Aside0.mk x.r8
  have hlm : x.c.f7.length ≤ 9223372036854775807 := Kd.C_len_le x.r11
  unfold Nd.cells at c0 r0 ⊢
  rw [hk] at c0 r0 ⊢
  have C0 := Aside0.mk c0
  have R0 := Aside0.mk r0
  have HK := Aside0.mk hk
  obtain ⟨y3, x0, x1, x2, x3, x4, x5, x6, x7, x8, x9, x10, x11⟩ := C0.out.cells
  rw [hk] at x0
  clear c0 r0 hk h hm hB hw hlen ih hn1 hte hn3 hn2
  go_enter Tryd.func20, Tryd.ntmps20
  go_wp2_with fail
  have D0 := Aside0.mk (C0.out.below (below_drew1 (Below.refl _ _)))
  have Q0 := Aside0.mk (R0.out.trans (OutR.of_below (g := g) (v := v) (below_drew1 (Below.refl _ _))))
  clear y3 x0 x1 x2 x3 x4 x5 x6 x7 x8 x9 x10 x11
  go_region_held3 (fun w' => w'.cell? ⟨w.heap.size, 0, none⟩ = some (.pointer (some ⟨g, 0, none⟩)) ∧ w'.cell? ⟨w.heap.size + 1, 1, none⟩ = some (.string x.c.f1) ∧ w'.cell? ⟨w.heap.size + 1, 2, none⟩ = some (.string x.c.f2) ∧ w'.cell? ⟨w.heap.size + 1, 3, none⟩ = some (.string x.c.f3) ∧ w'.cell? ⟨w.heap.size + 1, 9, none⟩ = some (.int .i64 x.c.f5))
    (with_reducible (first
      | exact CtrAt.five (Aside0.out (by assumption))
      | exact CtrAt.five (CtrAt.below (Aside0.out (by assumption)) (below_alloc (Below.refl _ _) _))))
    (first
      | (go_at_call 25; (with_reducible refine (printer_name.calls k _ _ _ Hn1.out).mono ?_); rintro e wq ⟨rfl, hb⟩; have CN := Aside0.mk (CtrAt.below (by with_reducible exact Aside0.out (by assumption)) hb); have QN := Aside0.mk (OutR.trans (g := g) (v := v) (v1 := v) (by with_reducible exact Aside0.out (by assumption)) (OutR.of_below hb)); clear hb)
      | (go_at_call 32; refine (h_put_at w0.heap.size g mb v _ [n1, ⟨#[32, 112, 97, 121, 115, 32]⟩] _ 2 _ _ (by simp) (CtrAt.O (by with_reducible exact Aside0.out (p := CtrAt w0 _ x _ _ g mb v om _) (by assumption))) rfl rfl (by have := HL.out; simp at this ⊢; omega) (by simp)).mono ?_; rintro e w1 ⟨rfl, v1, h1, r1⟩; have C1 := Aside0.mk (CtrAt.step (by with_reducible exact Aside0.out (p := CtrAt w0 _ x _ _ g mb v om _) (by assumption)) h1 r1 HW.out); have R1 := Aside0.mk (OutR.trans (g := g) (v := v) (v1 := v) (by with_reducible exact Aside0.out (by assumption)) r1); clear h1 r1))
  obtain ⟨y3, x0, x1, x2, x3, x4, x5, x6, x7, x8, x9, x10, x11⟩ := C1.out.cells
  rw [HK.out] at x0
  go_wp2_with fail
  refine (h_expr_all k _ _ _ _ _ _ _ _ te w0 _ g mb v1 om _ C1.out.B C1.out.O C1.out.M HW.out hr8.out x.h8 Hte.out (by have := HL.out; simp at this ⊢; omega)).mono ?_
  rintro e w2 ⟨rfl, v2, h2, r2⟩
  have C2 := Aside0.mk (C1.out.step h2 r2 HW.out)
  have R2 := Aside0.mk (R1.out.trans r2)
  clear h2 r2 y3 x0 x1 x2 x3 x4 x5 x6 x7 x8 x9 x10 x11
  obtain ⟨y3, x0, x1, x2, x3, x4, x5, x6, x7, x8, x9, x10, x11⟩ := C2.out.cells
  rw [HK.out] at x0
  go_wp2_with fail
  have D2 := Aside0.mk (C2.out.below (below_drew1 (Below.refl _ _)))
  have Q2 := Aside0.mk (R2.out.trans (OutR.of_below (g := g) (v := v2) (below_drew1 (Below.refl _ _))))
  clear y3 x0 x1 x2 x3 x4 x5 x6 x7 x8 x9 x10 x11
  go_region_held3 (fun w' => w'.cell? ⟨w.heap.size, 0, none⟩ = some (.pointer (some ⟨g, 0, none⟩)) ∧ w'.cell? ⟨w.heap.size + 1, 1, none⟩ = some (.string x.c.f1) ∧ w'.cell? ⟨w.heap.size + 1, 2, none⟩ = some (.string x.c.f2) ∧ w'.cell? ⟨w.heap.size + 1, 3, none⟩ = some (.string x.c.f3) ∧ w'.cell? ⟨w.heap.size + 1, 9, none⟩ = some (.int .i64 x.c.f5))
    (with_reducible (first
      | exact CtrAt.five (Aside0.out (by assumption))
      | exact CtrAt.five (CtrAt.below (Aside0.out (by assumption)) (below_alloc (Below.refl _ _) _))))
    (first
      | (go_at_call 25; (with_reducible refine (printer_name.calls k _ _ _ Hn3.out).mono ?_); rintro e wq ⟨rfl, hb⟩; have CN := Aside0.mk (CtrAt.below (by with_reducible exact Aside0.out (by assumption)) hb); have QN := Aside0.mk (OutR.trans (g := g) (v := v) (v1 := v2) (by with_reducible exact Aside0.out (by assumption)) (OutR.of_below hb)); clear hb)
      | (go_at_call 25; (with_reducible refine (printer_name.calls k _ _ _ Hn2.out).mono ?_); rintro e wq ⟨rfl, hb⟩; have CN := Aside0.mk (CtrAt.below (by with_reducible exact Aside0.out (by assumption)) hb); have QN := Aside0.mk (OutR.trans (g := g) (v := v) (v1 := v2) (by with_reducible exact Aside0.out (by assumption)) (OutR.of_below hb)); clear hb)
      | (go_at_call 32; refine (h_put_at w0.heap.size g mb v2 _ [⟨#[32]⟩, n3, ⟨#[32, 116, 111, 32]⟩, n2] _ 4 _ _ (by simp) (CtrAt.O (by with_reducible exact Aside0.out (p := CtrAt w0 _ x _ _ g mb v2 om _) (by assumption))) rfl rfl (by have := HL.out; simp at this ⊢; omega) (by simp)).mono ?_; rintro e w3 ⟨rfl, v3, h3, r3⟩; have C3 := Aside0.mk (CtrAt.step (by with_reducible exact Aside0.out (p := CtrAt w0 _ x _ _ g mb v2 om _) (by assumption)) h3 r3 HW.out); have R3 := Aside0.mk (OutR.trans (g := g) (v := v) (v1 := v2) (by with_reducible exact Aside0.out (by assumption)) r3); clear h3 r3))
  obtain ⟨y3, x0, x1, x2, x3, x4, x5, x6, x7, x8, x9, x10, x11⟩ := C3.out.cells
  rw [HK.out] at x0
  go_wp2_with fail
  exact bodyPost_ret (v := .tuple #[]) (by simp [results, Tryd.results20, go_sem]) rfl ⟨rfl, v3, by simpa using C3.out.O, R3.out⟩
set_option maxHeartbeats 16000000 in
set_option maxRecDepth 100000 in
theorem h_ctr_3 (k : Nat) (ih : ∀ m, m < k → CtrSaid m) (w0 w : World) (x : Nd0 w0) (hk : x.c.f0 = 3) (d : Int) (g mb : Nat) (v : Value) (om : Obj) (l : List UInt8) (br : List UInt8) (hbr : brcL k [59] x.c.f7 d 0 = some br)
    (hd0 : 0 ≤ d) (hd1 : d ≤ 900) (hB : Below w0.heap.size w0 w) (h : OutAt w0.heap.size w g v mb l) (hm : w.heap[mb]? = some om) (hw : WordsOK mb om) (hlen : l.length + ([98, 111, 116, 104, 32] ++ ([123] ++ (br ++ (lineOf d ++ [125])))).length + 4000 ≤ 140737488355328) :
    Calls Tryd.prog 20 #[.pointer (some ⟨g, 0, none⟩), .agg x.cells, .int .i64 d] w fun e w' => e = .returned (.tuple #[]) ∧ ∃ v', OutAt w0.heap.size w' g v' mb (l ++ ([98, 111, 116, 104, 32] ++ ([123] ++ (br ++ (lineOf d ++ [125]))))) ∧ OutR g w v w' v' := by
  have c0 := CtrAt.start x h hm hB
  have r0 : OutR g w v ((w.alloc (.cells #[.pointer (some ⟨g, 0, none⟩)] 47)).alloc (.cells x.cells 29)) v := OutR.of_below (below_step (below_alloc (Below.refl _ _) _) (below_alloc (Below.refl _ _) _))
  have HW := Aside0.mk hw
  have HL := Aside0.mk hlen
  have IH := Aside0.mk ih
  have Hbr := Aside0.mk hbr
  have hr8 := Aside0.mk x.r8
  have hlm : x.c.f7.length ≤ 9223372036854775807 := Kd.C_len_le x.r11
  unfold Nd.cells at c0 r0 ⊢
  rw [hk] at c0 r0 ⊢
  have C0 := Aside0.mk c0
  have R0 := Aside0.mk r0
  have HK := Aside0.mk hk
  obtain ⟨y3, x0, x1, x2, x3, x4, x5, x6, x7, x8, x9, x10, x11⟩ := C0.out.cells
  rw [hk] at x0
  clear c0 r0 hk h hm hB hw hlen ih hbr
  go_enter Tryd.func20, Tryd.ntmps20
  go_wp2_with fail
  refine (h_put_at w0.heap.size g mb v _ [⟨#[98, 111, 116, 104, 32]⟩] _ 1 _ _ (by simp) C0.out.O rfl rfl (by have := HL.out; simp at this ⊢; omega) (by simp)).mono ?_
  rintro e w1 ⟨rfl, v1, h1, r1⟩
  have C1 := Aside0.mk (C0.out.step h1 r1 HW.out)
  have R1 := Aside0.mk (R0.out.trans r1)
  clear h1 r1 y3 x0 x1 x2 x3 x4 x5 x6 x7 x8 x9 x10 x11
  obtain ⟨y3, x0, x1, x2, x3, x4, x5, x6, x7, x8, x9, x10, x11⟩ := C1.out.cells
  rw [HK.out] at x0
  go_wp2_with fail
  obtain ⟨xs, hxs, hsub⟩ := x.subs C1.out.B C1.out.O
  have hxl : x.c.f7.length = xs.length := by rw [← hxs, List.length_map]
  refine (h_braces k IH.out w0 _ ⟨#[59]⟩ x.A11 xs _ _ hxl d br g mb v1 om _ hd0 hd1 C1.out.B C1.out.O C1.out.M HW.out hsub (by rw [hxs]; exact Hbr.out) (by have := HL.out; simp at this ⊢; omega)).mono ?_
  rintro e w2 ⟨rfl, v2, h2, r2⟩
  have C2 := Aside0.mk (C1.out.step h2 r2 HW.out)
  have R2 := Aside0.mk (R1.out.trans r2)
  clear h2 r2 y3 x0 x1 x2 x3 x4 x5 x6 x7 x8 x9 x10 x11
  obtain ⟨y3, x0, x1, x2, x3, x4, x5, x6, x7, x8, x9, x10, x11⟩ := C2.out.cells
  rw [HK.out] at x0
  go_wp2_with fail
  exact bodyPost_ret (v := .tuple #[]) (by simp [results, Tryd.results20, go_sem]) rfl ⟨rfl, v2, by simpa using C2.out.O, R2.out⟩
set_option maxHeartbeats 16000000 in
set_option maxRecDepth 100000 in
theorem h_ctr_4 (k : Nat) (ih : ∀ m, m < k → CtrSaid m) (w0 w : World) (x : Nd0 w0) (hk : x.c.f0 = 4) (d : Int) (g mb : Nat) (v : Value) (om : Obj) (l : List UInt8) (te : List UInt8) (hte : printer_expr.f k x.c.f4.f0 x.c.f4.f1 x.c.f4.f2 x.c.f4.f3 x.c.f4.f4 0 = some te) (r : List UInt8) (hr : subL k x.c.f7 d 0 = some r)
    (hd0 : 0 ≤ d) (hd1 : d ≤ 900) (hB : Below w0.heap.size w0 w) (h : OutAt w0.heap.size w g v mb l) (hm : w.heap[mb]? = some om) (hw : WordsOK mb om) (hlen : l.length + ([115, 99, 97, 108, 101, 32] ++ (te ++ r)).length + 4000 ≤ 140737488355328) :
    Calls Tryd.prog 20 #[.pointer (some ⟨g, 0, none⟩), .agg x.cells, .int .i64 d] w fun e w' => e = .returned (.tuple #[]) ∧ ∃ v', OutAt w0.heap.size w' g v' mb (l ++ ([115, 99, 97, 108, 101, 32] ++ (te ++ r))) ∧ OutR g w v w' v' := by
  have c0 := CtrAt.start x h hm hB
  have r0 : OutR g w v ((w.alloc (.cells #[.pointer (some ⟨g, 0, none⟩)] 47)).alloc (.cells x.cells 29)) v := OutR.of_below (below_step (below_alloc (Below.refl _ _) _) (below_alloc (Below.refl _ _) _))
  have HW := Aside0.mk hw
  have HL := Aside0.mk hlen
  have IH := Aside0.mk ih
  have Hte := Aside0.mk hte
  have Hr := Aside0.mk hr
  have hr8 := Aside0.mk x.r8
  have hlm : x.c.f7.length ≤ 9223372036854775807 := Kd.C_len_le x.r11
  unfold Nd.cells at c0 r0 ⊢
  rw [hk] at c0 r0 ⊢
  have C0 := Aside0.mk c0
  have R0 := Aside0.mk r0
  have HK := Aside0.mk hk
  obtain ⟨y3, x0, x1, x2, x3, x4, x5, x6, x7, x8, x9, x10, x11⟩ := C0.out.cells
  rw [hk] at x0
  clear c0 r0 hk h hm hB hw hlen ih hte hr
  go_enter Tryd.func20, Tryd.ntmps20
  go_wp2_with fail
  refine (h_put_at w0.heap.size g mb v _ [⟨#[115, 99, 97, 108, 101, 32]⟩] _ 1 _ _ (by simp) C0.out.O rfl rfl (by have := HL.out; simp at this ⊢; omega) (by simp)).mono ?_
  rintro e w1 ⟨rfl, v1, h1, r1⟩
  have C1 := Aside0.mk (C0.out.step h1 r1 HW.out)
  have R1 := Aside0.mk (R0.out.trans r1)
  clear h1 r1 y3 x0 x1 x2 x3 x4 x5 x6 x7 x8 x9 x10 x11
  obtain ⟨y3, x0, x1, x2, x3, x4, x5, x6, x7, x8, x9, x10, x11⟩ := C1.out.cells
  rw [HK.out] at x0
  go_wp2_with fail
  refine (h_expr_all k _ _ _ _ _ _ _ _ te w0 _ g mb v1 om _ C1.out.B C1.out.O C1.out.M HW.out hr8.out x.h8 Hte.out (by have := HL.out; simp at this ⊢; omega)).mono ?_
  rintro e w2 ⟨rfl, v2, h2, r2⟩
  have C2 := Aside0.mk (C1.out.step h2 r2 HW.out)
  have R2 := Aside0.mk (R1.out.trans r2)
  clear h2 r2 y3 x0 x1 x2 x3 x4 x5 x6 x7 x8 x9 x10 x11
  obtain ⟨y3, x0, x1, x2, x3, x4, x5, x6, x7, x8, x9, x10, x11⟩ := C2.out.cells
  rw [HK.out] at x0
  have CL : Aside0 (CtrAt w0 w2 x w.heap.size (w.heap.size + 1) g mb v2 om (l ++ ([115, 99, 97, 108, 101, 32] ++ te))) := ⟨by simpa using C2.out⟩
  go_wp2_with fail
  clear y3 x0 x1 x2 x3 x4 x5 x6 x7 x8 x9 x10 x11
  go_loopg [119] k (fun kq v119 w' => ∃ i : Int, v119 = .int .i64 i ∧ Aside0 (0 ≤ i) ∧ Aside0 (SubSt kq x i d r w0 w w' w.heap.size (w.heap.size + 1) g mb v om (l ++ ([115, 99, 97, 108, 101, 32] ++ te))) ∧ Aside0 (kq ≤ k))
  case atStart => exact ⟨0, rfl, ⟨Int.le_refl _⟩, ⟨[], r, _, Hr.out, rfl, by simpa using CL.out, R2.out⟩, ⟨Nat.le_refl _⟩⟩
  case round =>
    clear Hr
    obtain ⟨i, rfl, HI, HA, HQ⟩ := hrel
    obtain ⟨pre, rest, v3, hl, hpr, hC, hR⟩ := HA.out
    cases gk with
    | zero => exact absurd hl (by simp [subL])
    | succ k1 =>
      simp only [subL] at hl
      by_cases c5 : i < (x.c.f7.length : Int)
      · rw [if_pos c5] at hl
        obtain ⟨a, ha, hl2⟩ := Option.bind_eq_some_iff.mp hl
        obtain ⟨b, hb, hl3⟩ := Option.bind_eq_some_iff.mp hl2
        have hrest := Option.some.inj hl3
        clear hl hl2 hl3 HA
        have i0 : 0 ≤ i := HI.out
        obtain ⟨y, ad, e5, hyc, p0, p1, p2, p3, p4, p5, p6, p7, p8, p9, p10, p11⟩ := x.sub i i0 c5
        rw [← hyc] at ha
        rw [e5]
        replace p0 := pw_cell_below hC.B p0
        replace p1 := pw_cell_below hC.B p1
        replace p2 := pw_cell_below hC.B p2
        replace p3 := pw_cell_below hC.B p3
        replace p4 := pw_cell_below hC.B p4
        replace p5 := pw_cell_below hC.B p5
        replace p6 := pw_cell_below hC.B p6
        replace p7 := pw_cell_below hC.B p7
        replace p8 := pw_cell_below hC.B p8
        replace p9 := pw_cell_below hC.B p9
        replace p10 := pw_cell_below hC.B p10
        replace p11 := pw_cell_below hC.B p11
        obtain ⟨bk, hbk⟩ : ∃ bk : Bool, (i == 0) = bk := ⟨_, rfl⟩
        have hon : toL (elsOf bk) = (if i = 0 then [32] else [32, 101, 108, 115, 101, 32]) := by
          subst hbk; by_cases e : i = 0 <;> simp [elsOf, e]
        have HON := Aside0.mk hon
        have HA2 := Aside0.mk ha
        have HB := Aside0.mk hb
        have HRE := Aside0.mk hrest
        have HPR := Aside0.mk hpr
        have c5b : decide (i < (x.c.f7.length : Int)) = true := decide_eq_true c5
        have by1 := below_alloc (Below.refl wr.heap.size wr) (.cells #[.int .u8 y.c.f0, .string y.c.f1, .string y.c.f2, .string y.c.f3, .int .u8 y.c.f4.f0, .string y.c.f4.f1, .string y.c.f4.f2, .int .i64 y.c.f4.f3, .slice y.A8 y.c.f4.f4.length y.c8, .int .i64 y.c.f5, .slice y.A10 y.c.f6.length y.c10, .slice y.A11 y.c.f7.length y.c11] 29)
        have BY := Aside0.mk by1
        have CY := Aside0.mk (hC.below by1)
        have KY := Aside0.mk (blk_new wr (.cells #[.int .u8 y.c.f0, .string y.c.f1, .string y.c.f2, .string y.c.f3, .int .u8 y.c.f4.f0, .string y.c.f4.f1, .string y.c.f4.f2, .int .i64 y.c.f4.f3, .slice y.A8 y.c.f4.f4.length y.c8, .int .i64 y.c.f5, .slice y.A10 y.c.f6.length y.c10, .slice y.A11 y.c.f7.length y.c11] 29))
        have RY := Aside0.mk (hR.trans (OutR.of_below (g := g) (v := v3) by1))
        obtain ⟨yg, yv⟩ := h_fresh hC.O
        have YG := Aside0.mk yg
        have YV := Aside0.mk yv
        have y3 := CY.out.box
        clear ha hb hrest hpr hon hyc by1 yg yv hC hR
        go_wp2_with fail
        clear p0 p1 p2 p3 p4 p5 p6 p7 p8 p9 p10 p11 y3
        have y3 := CY.out.box
        generalize wr.alloc (.cells #[.int .u8 y.c.f0, .string y.c.f1, .string y.c.f2, .string y.c.f3, .int .u8 y.c.f4.f0, .string y.c.f4.f1, .string y.c.f4.f2, .int .i64 y.c.f4.f3, .slice y.A8 y.c.f4.f4.length y.c8, .int .i64 y.c.f5, .slice y.A10 y.c.f6.length y.c10, .slice y.A11 y.c.f7.length y.c11] 29) = W1 at CY KY RY y3 ⊢
        generalize wr.heap.size = gy at KY YG YV ⊢
        rw [@run_makeMap Tryd.prog]
        simp only [Result.andThen]
        rw [Oper.upon_value]
        go_wp2_with (first
          | ((with_reducible refine h_arm_put W1 (n := 0) (D := (.map [])) (k := true) (BMap.made _) (below_alloc (Below.refl _ _) _) (Nat.le_refl _) (by decide) (by decide) ?_); intro wa ma ga; have MA := Aside0.mk ma; have GA := Aside0.mk ga; clear ma ga)
          | ((with_reducible refine h_arm_put W1 (n := 1) (D := (DataW.put (.map []) (.bool true) (.lit (.string (⟨#[32]⟩ : ByteArray).data.toList)))) (k := false) MA.out GA.out (Nat.le_refl _) (by decide) (by decide) ?_); intro wb mc gb; have MB : Aside0 (BMap wb W1.heap.size 2 elsD) := Aside0.mk mc; have GB := Aside0.mk gb; have CB := Aside0.mk (CY.out.below GB.out); have lk := BMap.look MB.out bk (elsOf bk) (elsD_on bk); clear mc gb y3; obtain ⟨y3, x0, x1, x2, x3, x4, x5, x6, x7, x8, x9, x10, x11⟩ := CB.out.cells; rw [HK.out] at x0))
        clear lk y3 x0 x1 x2 x3 x4 x5 x6 x7 x8 x9 x10 x11
        refine (h_put_at w0.heap.size g mb v3 _ [(elsOf bk)] _ 1 _ _ (by simp) CB.out.O rfl rfl (by have := HL.out; have e1 := HPR.out; have e2 := HRE.out; rw [← HON.out] at e2; rw [← e1, ← e2] at this; simp at this ⊢; omega) (by simp)).mono ?_
        rintro e w7 ⟨rfl, v7, h7, r7⟩
        have KB := Aside0.mk (blk_below KY.out GB.out)
        have C7 := Aside0.mk (CB.out.step h7 r7 HW.out)
        have K7 := Aside0.mk (r7.blk KB.out YG.out YV.out)
        have R7 := Aside0.mk ((RY.out.trans (OutR.of_below (g := g) (v := v3) GB.out)).trans r7)
        clear h7 r7 hbk c5b
        have y3 := C7.out.box
        obtain ⟨z0, z1, z2, z3, z4, z5, z6, z7, z8, z9, z10, z11⟩ := h_box12 K7.out
        go_wp2_with fail
        clear y3 z0 z1 z2 z3 z4 z5 z6 z7 z8 z9 z10 z11
        have bc := below_alloc (Below.refl w7.heap.size w7) (.cells #[.int .u8 y.c.f0, .string y.c.f1, .string y.c.f2, .string y.c.f3, .int .u8 y.c.f4.f0, .string y.c.f4.f1, .string y.c.f4.f2, .int .i64 y.c.f4.f3, .slice y.A8 y.c.f4.f4.length y.c8, .int .i64 y.c.f5, .slice y.A10 y.c.f6.length y.c10, .slice y.A11 y.c.f7.length y.c11] 29)
        have hs1 := h_subs_one y C7.out.O
        unfold Nd.cells at hs1
        refine (h_braces k1 (fun m hm => IH.out m (by have := HQ.out; omega)) w0 _ ⟨#[]⟩ _ [y] _ _ rfl d a g mb v7 om _ hd0 hd1 (C7.out.below bc).B (C7.out.below bc).O (C7.out.below bc).M HW.out hs1 HA2.out (by have := HL.out; have e1 := HPR.out; have e2 := HRE.out; rw [← HON.out] at e2; rw [← e1, ← e2] at this; simp at this ⊢; omega)).mono ?_
        rintro e w8 ⟨rfl, v8, h8, r8⟩
        have C8 := Aside0.mk ((C7.out.below bc).step h8 r8 HW.out)
        have R8 := Aside0.mk (R7.out.trans ((OutR.of_below (g := g) (v := v7) bc).trans r8))
        clear h8 r8 bc hs1
        rw [← e5]
        clear e5
        go_wp2_with fail
        go_roundg k1
        case measure => have := HQ.out; omega
        case rel =>
          refine ⟨i + 1, by go_num, ⟨by omega⟩, ⟨pre ++ (toL (elsOf bk) ++ ([123] ++ (a ++ (lineOf d ++ [125])))), b, v8, HB.out, ?_, by simpa using C8.out, R8.out⟩, ⟨by have := HQ.out; omega⟩⟩
          have e1 := HPR.out
          have e2 := HRE.out
          rw [← HON.out] at e2
          rw [← e1, ← e2]
          simp
      · rw [if_neg c5] at hl
        obtain rfl := Option.some.inj hl
        have c5b : decide (i < (x.c.f7.length : Int)) = false := decide_eq_false c5
        have C7 := Aside0.mk hC
        have R7 := Aside0.mk hR
        have HPR := Aside0.mk hpr
        clear hl hpr hC hR HA
        go_wp2_with fail
        go_end0
        refine ⟨rfl, v3, ?_, R7.out⟩
        have := C7.out.O
        rw [← HPR.out]
        simpa using this
set_option maxHeartbeats 16000000 in
set_option maxRecDepth 100000 in
theorem h_ctr_5 (k : Nat) (ih : ∀ m, m < k → CtrSaid m) (w0 w : World) (x : Nd0 w0) (hk : x.c.f0 = 5) (d : Int) (g mb : Nat) (v : Value) (om : Obj) (l : List UInt8) (te : List UInt8) (hte : printer_expr.f k x.c.f4.f0 x.c.f4.f1 x.c.f4.f2 x.c.f4.f3 x.c.f4.f4 0 = some te) (r : List UInt8) (hr : subL k x.c.f7 d 0 = some r)
    (hd0 : 0 ≤ d) (hd1 : d ≤ 900) (hB : Below w0.heap.size w0 w) (h : OutAt w0.heap.size w g v mb l) (hm : w.heap[mb]? = some om) (hw : WordsOK mb om) (hlen : l.length + ([105, 102, 32] ++ (te ++ r)).length + 4000 ≤ 140737488355328) :
    Calls Tryd.prog 20 #[.pointer (some ⟨g, 0, none⟩), .agg x.cells, .int .i64 d] w fun e w' => e = .returned (.tuple #[]) ∧ ∃ v', OutAt w0.heap.size w' g v' mb (l ++ ([105, 102, 32] ++ (te ++ r))) ∧ OutR g w v w' v' := by
  have c0 := CtrAt.start x h hm hB
  have r0 : OutR g w v ((w.alloc (.cells #[.pointer (some ⟨g, 0, none⟩)] 47)).alloc (.cells x.cells 29)) v := OutR.of_below (below_step (below_alloc (Below.refl _ _) _) (below_alloc (Below.refl _ _) _))
  have HW := Aside0.mk hw
  have HL := Aside0.mk hlen
  have IH := Aside0.mk ih
  have Hte := Aside0.mk hte
  have Hr := Aside0.mk hr
  have hr8 := Aside0.mk x.r8
  have hlm : x.c.f7.length ≤ 9223372036854775807 := Kd.C_len_le x.r11
  unfold Nd.cells at c0 r0 ⊢
  rw [hk] at c0 r0 ⊢
  have C0 := Aside0.mk c0
  have R0 := Aside0.mk r0
  have HK := Aside0.mk hk
  obtain ⟨y3, x0, x1, x2, x3, x4, x5, x6, x7, x8, x9, x10, x11⟩ := C0.out.cells
  rw [hk] at x0
  clear c0 r0 hk h hm hB hw hlen ih hte hr
  go_enter Tryd.func20, Tryd.ntmps20
  go_wp2_with fail
  refine (h_put_at w0.heap.size g mb v _ [⟨#[105, 102, 32]⟩] _ 1 _ _ (by simp) C0.out.O rfl rfl (by have := HL.out; simp at this ⊢; omega) (by simp)).mono ?_
  rintro e w1 ⟨rfl, v1, h1, r1⟩
  have C1 := Aside0.mk (C0.out.step h1 r1 HW.out)
  have R1 := Aside0.mk (R0.out.trans r1)
  clear h1 r1 y3 x0 x1 x2 x3 x4 x5 x6 x7 x8 x9 x10 x11
  obtain ⟨y3, x0, x1, x2, x3, x4, x5, x6, x7, x8, x9, x10, x11⟩ := C1.out.cells
  rw [HK.out] at x0
  go_wp2_with fail
  refine (h_expr_all k _ _ _ _ _ _ _ _ te w0 _ g mb v1 om _ C1.out.B C1.out.O C1.out.M HW.out hr8.out x.h8 Hte.out (by have := HL.out; simp at this ⊢; omega)).mono ?_
  rintro e w2 ⟨rfl, v2, h2, r2⟩
  have C2 := Aside0.mk (C1.out.step h2 r2 HW.out)
  have R2 := Aside0.mk (R1.out.trans r2)
  clear h2 r2 y3 x0 x1 x2 x3 x4 x5 x6 x7 x8 x9 x10 x11
  obtain ⟨y3, x0, x1, x2, x3, x4, x5, x6, x7, x8, x9, x10, x11⟩ := C2.out.cells
  rw [HK.out] at x0
  have CL : Aside0 (CtrAt w0 w2 x w.heap.size (w.heap.size + 1) g mb v2 om (l ++ ([105, 102, 32] ++ te))) := ⟨by simpa using C2.out⟩
  go_wp2_with fail
  clear y3 x0 x1 x2 x3 x4 x5 x6 x7 x8 x9 x10 x11
  go_loopg [119] k (fun kq v119 w' => ∃ i : Int, v119 = .int .i64 i ∧ Aside0 (0 ≤ i) ∧ Aside0 (SubSt kq x i d r w0 w w' w.heap.size (w.heap.size + 1) g mb v om (l ++ ([105, 102, 32] ++ te))) ∧ Aside0 (kq ≤ k))
  case atStart => exact ⟨0, rfl, ⟨Int.le_refl _⟩, ⟨[], r, _, Hr.out, rfl, by simpa using CL.out, R2.out⟩, ⟨Nat.le_refl _⟩⟩
  case round =>
    clear Hr
    obtain ⟨i, rfl, HI, HA, HQ⟩ := hrel
    obtain ⟨pre, rest, v3, hl, hpr, hC, hR⟩ := HA.out
    cases gk with
    | zero => exact absurd hl (by simp [subL])
    | succ k1 =>
      simp only [subL] at hl
      by_cases c5 : i < (x.c.f7.length : Int)
      · rw [if_pos c5] at hl
        obtain ⟨a, ha, hl2⟩ := Option.bind_eq_some_iff.mp hl
        obtain ⟨b, hb, hl3⟩ := Option.bind_eq_some_iff.mp hl2
        have hrest := Option.some.inj hl3
        clear hl hl2 hl3 HA
        have i0 : 0 ≤ i := HI.out
        obtain ⟨y, ad, e5, hyc, p0, p1, p2, p3, p4, p5, p6, p7, p8, p9, p10, p11⟩ := x.sub i i0 c5
        rw [← hyc] at ha
        rw [e5]
        replace p0 := pw_cell_below hC.B p0
        replace p1 := pw_cell_below hC.B p1
        replace p2 := pw_cell_below hC.B p2
        replace p3 := pw_cell_below hC.B p3
        replace p4 := pw_cell_below hC.B p4
        replace p5 := pw_cell_below hC.B p5
        replace p6 := pw_cell_below hC.B p6
        replace p7 := pw_cell_below hC.B p7
        replace p8 := pw_cell_below hC.B p8
        replace p9 := pw_cell_below hC.B p9
        replace p10 := pw_cell_below hC.B p10
        replace p11 := pw_cell_below hC.B p11
        obtain ⟨bk, hbk⟩ : ∃ bk : Bool, (i == 0) = bk := ⟨_, rfl⟩
        have hon : toL (elsOf bk) = (if i = 0 then [32] else [32, 101, 108, 115, 101, 32]) := by
          subst hbk; by_cases e : i = 0 <;> simp [elsOf, e]
        have HON := Aside0.mk hon
        have HA2 := Aside0.mk ha
        have HB := Aside0.mk hb
        have HRE := Aside0.mk hrest
        have HPR := Aside0.mk hpr
        have c5b : decide (i < (x.c.f7.length : Int)) = true := decide_eq_true c5
        have by1 := below_alloc (Below.refl wr.heap.size wr) (.cells #[.int .u8 y.c.f0, .string y.c.f1, .string y.c.f2, .string y.c.f3, .int .u8 y.c.f4.f0, .string y.c.f4.f1, .string y.c.f4.f2, .int .i64 y.c.f4.f3, .slice y.A8 y.c.f4.f4.length y.c8, .int .i64 y.c.f5, .slice y.A10 y.c.f6.length y.c10, .slice y.A11 y.c.f7.length y.c11] 29)
        have BY := Aside0.mk by1
        have CY := Aside0.mk (hC.below by1)
        have KY := Aside0.mk (blk_new wr (.cells #[.int .u8 y.c.f0, .string y.c.f1, .string y.c.f2, .string y.c.f3, .int .u8 y.c.f4.f0, .string y.c.f4.f1, .string y.c.f4.f2, .int .i64 y.c.f4.f3, .slice y.A8 y.c.f4.f4.length y.c8, .int .i64 y.c.f5, .slice y.A10 y.c.f6.length y.c10, .slice y.A11 y.c.f7.length y.c11] 29))
        have RY := Aside0.mk (hR.trans (OutR.of_below (g := g) (v := v3) by1))
        obtain ⟨yg, yv⟩ := h_fresh hC.O
        have YG := Aside0.mk yg
        have YV := Aside0.mk yv
        have y3 := CY.out.box
        clear ha hb hrest hpr hon hyc by1 yg yv hC hR
        go_wp2_with fail
        clear p0 p1 p2 p3 p4 p5 p6 p7 p8 p9 p10 p11 y3
        have y3 := CY.out.box
        generalize wr.alloc (.cells #[.int .u8 y.c.f0, .string y.c.f1, .string y.c.f2, .string y.c.f3, .int .u8 y.c.f4.f0, .string y.c.f4.f1, .string y.c.f4.f2, .int .i64 y.c.f4.f3, .slice y.A8 y.c.f4.f4.length y.c8, .int .i64 y.c.f5, .slice y.A10 y.c.f6.length y.c10, .slice y.A11 y.c.f7.length y.c11] 29) = W1 at CY KY RY y3 ⊢
        generalize wr.heap.size = gy at KY YG YV ⊢
        rw [@run_makeMap Tryd.prog]
        simp only [Result.andThen]
        rw [Oper.upon_value]
        go_wp2_with (first
          | ((with_reducible refine h_arm_put W1 (n := 0) (D := (.map [])) (k := true) (BMap.made _) (below_alloc (Below.refl _ _) _) (Nat.le_refl _) (by decide) (by decide) ?_); intro wa ma ga; have MA := Aside0.mk ma; have GA := Aside0.mk ga; clear ma ga)
          | ((with_reducible refine h_arm_put W1 (n := 1) (D := (DataW.put (.map []) (.bool true) (.lit (.string (⟨#[32]⟩ : ByteArray).data.toList)))) (k := false) MA.out GA.out (Nat.le_refl _) (by decide) (by decide) ?_); intro wb mc gb; have MB : Aside0 (BMap wb W1.heap.size 2 elsD) := Aside0.mk mc; have GB := Aside0.mk gb; have CB := Aside0.mk (CY.out.below GB.out); have lk := BMap.look MB.out bk (elsOf bk) (elsD_on bk); clear mc gb y3; obtain ⟨y3, x0, x1, x2, x3, x4, x5, x6, x7, x8, x9, x10, x11⟩ := CB.out.cells; rw [HK.out] at x0))
        clear lk y3 x0 x1 x2 x3 x4 x5 x6 x7 x8 x9 x10 x11
        refine (h_put_at w0.heap.size g mb v3 _ [(elsOf bk)] _ 1 _ _ (by simp) CB.out.O rfl rfl (by have := HL.out; have e1 := HPR.out; have e2 := HRE.out; rw [← HON.out] at e2; rw [← e1, ← e2] at this; simp at this ⊢; omega) (by simp)).mono ?_
        rintro e w7 ⟨rfl, v7, h7, r7⟩
        have KB := Aside0.mk (blk_below KY.out GB.out)
        have C7 := Aside0.mk (CB.out.step h7 r7 HW.out)
        have K7 := Aside0.mk (r7.blk KB.out YG.out YV.out)
        have R7 := Aside0.mk ((RY.out.trans (OutR.of_below (g := g) (v := v3) GB.out)).trans r7)
        clear h7 r7 hbk c5b
        have y3 := C7.out.box
        obtain ⟨z0, z1, z2, z3, z4, z5, z6, z7, z8, z9, z10, z11⟩ := h_box12 K7.out
        go_wp2_with fail
        clear y3 z0 z1 z2 z3 z4 z5 z6 z7 z8 z9 z10 z11
        have bc := below_alloc (Below.refl w7.heap.size w7) (.cells #[.int .u8 y.c.f0, .string y.c.f1, .string y.c.f2, .string y.c.f3, .int .u8 y.c.f4.f0, .string y.c.f4.f1, .string y.c.f4.f2, .int .i64 y.c.f4.f3, .slice y.A8 y.c.f4.f4.length y.c8, .int .i64 y.c.f5, .slice y.A10 y.c.f6.length y.c10, .slice y.A11 y.c.f7.length y.c11] 29)
        have hs1 := h_subs_one y C7.out.O
        unfold Nd.cells at hs1
        refine (h_braces k1 (fun m hm => IH.out m (by have := HQ.out; omega)) w0 _ ⟨#[]⟩ _ [y] _ _ rfl d a g mb v7 om _ hd0 hd1 (C7.out.below bc).B (C7.out.below bc).O (C7.out.below bc).M HW.out hs1 HA2.out (by have := HL.out; have e1 := HPR.out; have e2 := HRE.out; rw [← HON.out] at e2; rw [← e1, ← e2] at this; simp at this ⊢; omega)).mono ?_
        rintro e w8 ⟨rfl, v8, h8, r8⟩
        have C8 := Aside0.mk ((C7.out.below bc).step h8 r8 HW.out)
        have R8 := Aside0.mk (R7.out.trans ((OutR.of_below (g := g) (v := v7) bc).trans r8))
        clear h8 r8 bc hs1
        rw [← e5]
        clear e5
        go_wp2_with fail
        go_roundg k1
        case measure => have := HQ.out; omega
        case rel =>
          refine ⟨i + 1, by go_num, ⟨by omega⟩, ⟨pre ++ (toL (elsOf bk) ++ ([123] ++ (a ++ (lineOf d ++ [125])))), b, v8, HB.out, ?_, by simpa using C8.out, R8.out⟩, ⟨by have := HQ.out; omega⟩⟩
          have e1 := HPR.out
          have e2 := HRE.out
          rw [← HON.out] at e2
          rw [← e1, ← e2]
          simp
      · rw [if_neg c5] at hl
        obtain rfl := Option.some.inj hl
        have c5b : decide (i < (x.c.f7.length : Int)) = false := decide_eq_false c5
        have C7 := Aside0.mk hC
        have R7 := Aside0.mk hR
        have HPR := Aside0.mk hpr
        clear hl hpr hC hR HA
        go_wp2_with fail
        go_end0
        refine ⟨rfl, v3, ?_, R7.out⟩
        have := C7.out.O
        rw [← HPR.out]
        simpa using this

end Go.Proofs.YtalaekadkjhldaaDoor.Pr
