/- A part of the proof of the statement PrinterNames (the printer's examples, further texts and errors): contracts of functions of the program, proved by walking their text. -/
import Derived.Test.YtalaekadkjhldaaDoorPn0
import Derived.Test.YtalaekadkjhldaaDoorPn1
import Derived.Test.YtalaekadkjhldaaDoorPn2
import Derived.Test.YtalaekadkjhldaaDoorPn3
import Derived.Test.YtalaekadkjhldaaDoorPn4
import Derived.Test.YtalaekadkjhldaaDoorPn5
import Derived.Test.YtalaekadkjhldaaDoorPn6
import Derived.Outline
import Derived.Deep.RegionWith
import Derived.Deep.LoopGhost
import Derived.Maps.Own
import Derived.Maps.StringElems
import Derived.Deep.RegionHeld3
import Derived.Test.YtalaekadkjhldaaDoorShelf
import Derived.Test.YtalaekadkjhldaaDoorHa
import Derived.Test.YtalaekadkjhldaaDoorHb
import Derived.Test.YtalaekadkjhldaaDoorHc
import Derived.Test.YtalaekadkjhldaaDoorHd
import Derived.Test.YtalaekadkjhldaaDoorHe
namespace Go.Proofs.YtalaekadkjhldaaDoor.Pr
open Go.RowKit Go.Proofs.YtalaekadkjhldaaDoorW.PrintWords Go.Proofs.YtalaekadkjhldaaDoorW.PrintLast Go.Proofs.YtalaekadkjhldaaDoorW.PrintMore
attribute [local go_sem] max2_int min2_int max_two min_two max_three min_three max_four min_four
set_option linter.unusedVariables false
set_option linter.unusedSimpArgs false
-- IMPORT Derived.Outline Derived.Deep.RegionWith Derived.Deep.LoopGhost
mutual
/-- What contract writes. -/
def ctrF : Nat → S29 → Int → Option (List UInt8)
  | 0, _, _ => none
  | k + 1, c, d => if 0 ≤ d ∧ d ≤ 900 then
      if c.f0 = 1 then some [110, 111, 116, 104, 105, 110, 103]
      else if c.f0 = 2 then (printer_name.f k c.f1).bind fun n1 => (printer_expr.f k c.f4.f0 c.f4.f1 c.f4.f2 c.f4.f3 c.f4.f4 0).bind fun t => (printer_name.f k c.f3).bind fun n3 => (printer_name.f k c.f2).bind fun n2 => some ((toL n1 ++ [32, 112, 97, 121, 115, 32]) ++ (t ++ ([32] ++ (toL n3 ++ ([32, 116, 111, 32] ++ toL n2)))))
      else if c.f0 = 3 then (brcL k [59] c.f7 d 0).bind fun a => some ([98, 111, 116, 104, 32] ++ ([123] ++ (a ++ (lineOf d ++ [125]))))
      else if c.f0 = 4 then (printer_expr.f k c.f4.f0 c.f4.f1 c.f4.f2 c.f4.f3 c.f4.f4 0).bind fun t => (subL k c.f7 d 0).bind fun r => some ([115, 99, 97, 108, 101, 32] ++ (t ++ r))
      else if c.f0 = 5 then (printer_expr.f k c.f4.f0 c.f4.f1 c.f4.f2 c.f4.f3 c.f4.f4 0).bind fun t => (subL k c.f7 d 0).bind fun r => some ([105, 102, 32] ++ (t ++ r))
      else if c.f0 = 6 then (printer_day.f k c.f5).bind fun n => (subL k c.f7 d 0).bind fun r => some (([111, 110, 32] ++ toL n) ++ r)
      else if c.f0 = 7 then (printer_name.f k c.f3).bind fun n3 => (printer_name.f k c.f1).bind fun n1 => (subL k c.f7 d 0).bind fun r => some (([99, 104, 111, 105, 99, 101, 32] ++ (toL n3 ++ ([32, 98, 121, 32] ++ toL n1))) ++ r)
      else if c.f0 = 8 then (printer_name.f k c.f3).bind fun n3 => (printer_name.f k c.f1).bind fun n1 => (datL k c.f6 0).bind fun t => (subL k c.f7 d 0).bind fun r => some (([99, 97, 108, 108, 32] ++ (toL n3 ++ ([32, 98, 121, 32] ++ toL n1))) ++ (t ++ r))
      else if c.f0 = 9 then (printer_expr.f k c.f4.f0 c.f4.f1 c.f4.f2 c.f4.f3 c.f4.f4 0).bind fun t => (datL k c.f6 0).bind fun u => (subL k c.f7 d 0).bind fun r => some ([117, 110, 116, 105, 108, 32] ++ (t ++ (u ++ r)))
      else if c.f0 = 10 then (printer_expr.f k c.f4.f0 c.f4.f1 c.f4.f2 c.f4.f3 c.f4.f4 0).bind fun t => (datL k c.f6 0).bind fun u => (subL k c.f7 d 0).bind fun r => some ([119, 104, 101, 110, 32] ++ (t ++ (u ++ r)))
      else none
    else none
/-- The parts in braces, from the i-th on. -/
def brcL : Nat → List UInt8 → List S29 → Int → Int → Option (List UInt8)
  | 0, _, _, _, _ => none
  | k + 1, s, l, d, i => if i < (l.length : Int) then (ctrF k (rd_T29 l i) (d + 1)).bind fun a => (brcL k s l d (i + 1)).bind fun b => some ((if i > 0 then s else []) ++ (lineOf (d + 1) ++ (a ++ b))) else some []
/-- The parts behind a head, from the i-th on. -/
def subL : Nat → List S29 → Int → Int → Option (List UInt8)
  | 0, _, _, _ => none
  | k + 1, l, d, i => if i < (l.length : Int) then (brcL k [] [rd_T29 l i] d 0).bind fun a => (subL k l d (i + 1)).bind fun b => some ((if i = 0 then [32] else [32, 101, 108, 115, 101, 32]) ++ (([123] ++ (a ++ (lineOf d ++ [125]))) ++ b)) else some []
/-- The dates, from the i-th on. -/
def datL : Nat → List Int → Int → Option (List UInt8)
  | 0, _, _ => none
  | k + 1, l, i => if i < (l.length : Int) then (printer_day.f k (rd l i)).bind fun a => (datL k l (i + 1)).bind fun b => some ((if i = 0 then [32, 111, 110, 32] else [44, 32]) ++ (toL a ++ b)) else some []
end
abbrev Nd0 (w0 : World) := Nd w0 (fun _ => True)
def CtrSaid (k : Nat) : Prop := ∀ (w0 w : World) (x : Nd0 w0) (d : Int) (t : List UInt8) (g mb : Nat) (v : Value) (om : Obj) (l : List UInt8)
    (hB : Below w0.heap.size w0 w) (h : OutAt w0.heap.size w g v mb l) (hm : w.heap[mb]? = some om) (hw : WordsOK mb om) (hf : ctrF k x.c d = some t) (hlen : l.length + t.length + 4000 ≤ 140737488355328),
    Calls Tryd.prog 20 #[.pointer (some ⟨g, 0, none⟩), .agg x.cells, .int .i64 d] w fun e w' => e = .returned (.tuple #[]) ∧ ∃ v', OutAt w0.heap.size w' g v' mb (l ++ t) ∧ OutR g w v w' v'
/-- The contracts xs lie in a row apart from the writer. -/
structure SubsAt (w0 w : World) (g : Nat) (v : Value) (A : Option Addr) (xs : List (Nd0 w0)) : Prop where
  len : xs.length ≤ 9223372036854775807
  at_ : ∀ (i : Nat) (h : i < xs.length), ∃ ad, A = some ad ∧ ad.block < w.heap.size ∧ ad.block ≠ g ∧ v.ownBlock ≠ some ad.block ∧
    (w.cell? (ad.add (i * 12)) = some (xs[i].cells.getD 0 undef) ∧ ∀ j, 1 ≤ j → j < 12 → w.cell? ⟨(ad.add (i * 12)).block, (ad.add (i * 12)).off + j, none⟩ = some (xs[i].cells.getD j undef))
theorem SubsAt.step {w0 w w' : World} {g : Nat} {v v' : Value} {A : Option Addr} {xs : List (Nd0 w0)} (h : SubsAt w0 w g v A xs) (hr : OutR g w v w' v') : SubsAt w0 w' g v' A xs := by
  refine ⟨h.len, fun i hi => ?_⟩
  obtain ⟨ad, e, h1, h2, h3, h4, h5⟩ := h.at_ i hi
  have hk : ∀ p : Addr, p.block = ad.block → w'.cell? p = w.cell? p := fun p hp => World.cell?_of_block (by rw [hp]; exact hr.keep _ h1 h2 h3)
  exact ⟨ad, e, Nat.lt_of_lt_of_le h1 hr.size, h2, hr.off h1 h3, (hk _ (h_add_block ad _)).trans h4, fun j j1 j2 => (hk ⟨(ad.add (i * 12)).block, (ad.add (i * 12)).off + j, none⟩ (h_add_block ad _)).trans (h5 j j1 j2)⟩
theorem SubsAt.below {w0 w w' : World} {g : Nat} {v : Value} {A : Option Addr} {xs : List (Nd0 w0)} (h : SubsAt w0 w g v A xs) (hb : Below w.heap.size w w') : SubsAt w0 w' g v A xs := h.step (OutR.of_below hb)
/-- The cells of the i-th of them. -/
theorem SubsAt.cells {w0 w : World} {g : Nat} {v : Value} {A : Option Addr} {xs : List (Nd0 w0)} (h : SubsAt w0 w g v A xs) (i : Nat) (hi : i < xs.length) : ∃ ad, A = some ad ∧ w.cell? (ad.add (i * 12)) = some (.int .u8 xs[i].c.f0) ∧ w.cell? ⟨(ad.add (i * 12)).block, (ad.add (i * 12)).off + 1, none⟩ = some (.string xs[i].c.f1) ∧ w.cell? ⟨(ad.add (i * 12)).block, (ad.add (i * 12)).off + 2, none⟩ = some (.string xs[i].c.f2) ∧ w.cell? ⟨(ad.add (i * 12)).block, (ad.add (i * 12)).off + 3, none⟩ = some (.string xs[i].c.f3) ∧
    w.cell? ⟨(ad.add (i * 12)).block, (ad.add (i * 12)).off + 4, none⟩ = some (.int .u8 xs[i].c.f4.f0) ∧ w.cell? ⟨(ad.add (i * 12)).block, (ad.add (i * 12)).off + 5, none⟩ = some (.string xs[i].c.f4.f1) ∧ w.cell? ⟨(ad.add (i * 12)).block, (ad.add (i * 12)).off + 6, none⟩ = some (.string xs[i].c.f4.f2) ∧ w.cell? ⟨(ad.add (i * 12)).block, (ad.add (i * 12)).off + 7, none⟩ = some (.int .i64 xs[i].c.f4.f3) ∧ w.cell? ⟨(ad.add (i * 12)).block, (ad.add (i * 12)).off + 8, none⟩ = some (.slice xs[i].A8 xs[i].c.f4.f4.length xs[i].c8) ∧
    w.cell? ⟨(ad.add (i * 12)).block, (ad.add (i * 12)).off + 9, none⟩ = some (.int .i64 xs[i].c.f5) ∧ w.cell? ⟨(ad.add (i * 12)).block, (ad.add (i * 12)).off + 10, none⟩ = some (.slice xs[i].A10 xs[i].c.f6.length xs[i].c10) ∧ w.cell? ⟨(ad.add (i * 12)).block, (ad.add (i * 12)).off + 11, none⟩ = some (.slice xs[i].A11 xs[i].c.f7.length xs[i].c11) := by
  obtain ⟨ad, e, _, _, _, h0, h1⟩ := h.at_ i hi
  exact ⟨ad, e, h0, h1 1 (by decide) (by decide), h1 2 (by decide) (by decide), h1 3 (by decide) (by decide), h1 4 (by decide) (by decide), h1 5 (by decide) (by decide), h1 6 (by decide) (by decide), h1 7 (by decide) (by decide), h1 8 (by decide) (by decide), h1 9 (by decide) (by decide), h1 10 (by decide) (by decide), h1 11 (by decide) (by decide)⟩
def BrcSt (kq : Nat) (s : List UInt8) (l5 : List S29) (d i : Int) (t : List UInt8) (w0 w w' : World) (g mb : Nat) (v : Value) (om : Obj) (l : List UInt8) : Prop :=
  ∃ pre rest v', brcL kq s l5 d i = some rest ∧ pre ++ rest = t ∧ OutAt w0.heap.size w' g v' mb (l ++ pre) ∧ OutR g w v w' v' ∧ w'.heap[mb]? = some om ∧ Below w0.heap.size w0 w'
set_option maxHeartbeats 4000000 in
set_option maxRecDepth 100000 in
theorem h_braces (k : Nat) (ih : ∀ m, m < k → CtrSaid m) (w0 w : World) (s : ByteArray) (A : Option Addr) (xs : List (Nd0 w0)) (n c : Nat) (hn : n = xs.length) (d : Int) (t : List UInt8) (g mb : Nat) (v : Value) (om : Obj) (l : List UInt8)
    (hd0 : 0 ≤ d) (hd1 : d ≤ 900) (hB : Below w0.heap.size w0 w) (h : OutAt w0.heap.size w g v mb l) (hm : w.heap[mb]? = some om) (hw : WordsOK mb om) (hx : SubsAt w0 w g v A xs) (hf : brcL k (toL s) (xs.map (·.c)) d 0 = some t) (hlen : l.length + ([123] ++ (t ++ (lineOf d ++ [125]))).length + 4000 ≤ 140737488355328) :
    Calls Tryd.prog 34 #[.pointer (some ⟨g, 0, none⟩), .int .i64 d, .string s, .slice A n c] w fun e w' => e = .returned (.tuple #[]) ∧ ∃ v', OutAt w0.heap.size w' g v' mb (l ++ ([123] ++ (t ++ (lineOf d ++ [125])))) ∧ OutR g w v w' v' := by
  subst hn
  have HO := Aside0.mk h
  have HL := Aside0.mk hlen
  have HM := Aside0.mk hm
  have HW := Aside0.mk hw
  have HX := Aside0.mk hx
  have IH := Aside0.mk ih
  have HT := Aside0.mk hf
  have H0 := Aside0.mk hB
  clear h hlen hm hw hx ih hf hB
  go_enter Tryd.func34, Tryd.ntmps34
  go_wp2_with fail
  refine (h_put_at w0.heap.size g mb v l [⟨#[123]⟩] _ 1 _ w rfl HO.out rfl rfl (by have := HL.out; simp at this ⊢; omega) (by simp)).mono ?_
  rintro e w1 ⟨rfl, v1, h1, r1⟩
  have O1 := Aside0.mk h1
  have R1 := Aside0.mk r1
  have X1 := Aside0.mk (HX.out.step r1)
  have M1 := Aside0.mk (h_map_keep HO.out r1 HM.out HW.out)
  have B1 := Aside0.mk (H0.out.trans (HO.out.step r1))
  clear h1 r1
  go_wp2_with fail
  go_loopg [15] k (fun kq v15 w' => ∃ i : Int, v15 = .int .i64 i ∧ Aside0 (0 ≤ i) ∧ Aside0 (BrcSt kq (toL s) (xs.map (·.c)) d i t w0 w1 w' g mb v1 om (l ++ [123])) ∧ Aside0 (kq ≤ k))
  case atStart => exact ⟨0, rfl, ⟨Int.le_refl _⟩, ⟨[], t, v1, HT.out, rfl, by simpa using O1.out, OutR.refl _ _ _, M1.out, B1.out⟩, ⟨Nat.le_refl _⟩⟩
  case round =>
    clear HT
    obtain ⟨i, rfl, HI, HA, HK⟩ := hrel
    obtain ⟨pre, rest, v3, hl, hpr, h3', r3, m3, b03⟩ := HA.out
    cases gk with
    | zero => exact absurd hl (by simp [brcL])
    | succ k1 =>
      simp only [brcL, List.length_map] at hl
      by_cases c5 : i < (xs.length : Int)
      · rw [if_pos c5] at hl
        obtain ⟨a, ha, hl2⟩ := Option.bind_eq_some_iff.mp hl
        obtain ⟨b, hb, hl3⟩ := Option.bind_eq_some_iff.mp hl2
        have hrest := Option.some.inj hl3
        clear hl hl2 hl3
        have i0 : 0 ≤ i := HI.out
        have hin : i.toNat < xs.length := by omega
        have hlm : xs.length ≤ 9223372036854775807 := HX.out.len
        have hX3 := X1.out.step r3
        obtain ⟨ad, e5, p0, p1, p2, p3, p4, p5, p6, p7, p8, p9, p10, p11⟩ := hX3.cells i.toNat hin
        cases e5
        have hrd : rd_T29 (xs.map (·.c)) i = (xs[i.toNat]).c := by
          simp [rd_T29, List.getD_eq_getElem?_getD, List.getElem?_eq_getElem hin]
        rw [hrd] at ha
        obtain ⟨y, hy⟩ : ∃ y : Nd0 w0, y = xs[i.toNat] := ⟨_, rfl⟩
        rw [← hy] at ha p0 p1 p2 p3 p4 p5 p6 p7 p8 p9 p10 p11
        have HCA := Aside0.mk ha
        have HB := Aside0.mk hb
        have HRE := Aside0.mk hrest
        have HPR := Aside0.mk hpr
        have O3 := Aside0.mk h3'
        have R3 := Aside0.mk r3
        have M3 := Aside0.mk m3
        have B03 := Aside0.mk b03
        have c5b : decide (i < (xs.length : Int)) = true := decide_eq_true c5
        clear ha hb hrest hpr h3' r3 m3 b03 HA hX3 hrd hy
        have BY := Aside0.mk (below_alloc (Below.refl wr.heap.size wr) (.cells #[.int .u8 y.c.f0, .string y.c.f1, .string y.c.f2, .string y.c.f3, .int .u8 y.c.f4.f0, .string y.c.f4.f1, .string y.c.f4.f2, .int .i64 y.c.f4.f3, .slice y.A8 y.c.f4.f4.length y.c8, .int .i64 y.c.f5, .slice y.A10 y.c.f6.length y.c10, .slice y.A11 y.c.f7.length y.c11] 29))
        have KY := Aside0.mk (blk_new wr (.cells #[.int .u8 y.c.f0, .string y.c.f1, .string y.c.f2, .string y.c.f3, .int .u8 y.c.f4.f0, .string y.c.f4.f1, .string y.c.f4.f2, .int .i64 y.c.f4.f3, .slice y.A8 y.c.f4.f4.length y.c8, .int .i64 y.c.f5, .slice y.A10 y.c.f6.length y.c10, .slice y.A11 y.c.f7.length y.c11] 29))
        have OY := Aside0.mk (O3.out.below BY.out)
        have MY := Aside0.mk (blk_below M3.out BY.out)
        have B0Y := Aside0.mk (below_step B03.out BY.out)
        obtain ⟨yg, yv⟩ := h_fresh O3.out
        have YG := Aside0.mk yg
        have YV := Aside0.mk yv
        clear yg yv
        by_cases c6 : 0 < i
        · have c6b : decide (0 < i) = true := decide_eq_true c6
          go_wp2_with fail
          clear p0 p1 p2 p3 p4 p5 p6 p7 p8 p9 p10 p11
          refine (h_put_at w0.heap.size g mb v3 _ [s] _ 1 _ _ (by simp) OY.out rfl rfl (by have := HL.out; have e1 := HPR.out; have e2 := HRE.out; rw [← e1, ← e2] at this; simp [c6] at this ⊢; omega) (by simp)).mono ?_
          rintro e w4 ⟨rfl, v4, h4', r4⟩
          have KY4 := Aside0.mk (r4.blk KY.out YG.out YV.out)
          have YV4 := Aside0.mk (r4.off (blk_lt KY.out) YV.out)
          have O4 := Aside0.mk h4'
          have R4 := Aside0.mk r4
          have M4 := Aside0.mk (h_map_keep OY.out r4 MY.out HW.out)
          have B04 := Aside0.mk (B0Y.out.trans (OY.out.step r4))
          clear h4' r4
          go_wp2_with fail
          refine (h_line w0.heap.size g mb v4 _ (d + 1) _ O4.out (by omega) (by omega) (by have := HL.out; have e1 := HPR.out; have e2 := HRE.out; rw [← e1, ← e2] at this; simp [c6] at this ⊢; omega)).mono ?_
          rintro e w5 ⟨rfl, v5, h5', r5⟩
          have O5 := Aside0.mk h5'
          have R5 := Aside0.mk r5
          have KY5 := Aside0.mk (r5.blk KY4.out YG.out YV4.out)
          have M5 := Aside0.mk (h_map_keep O4.out r5 M4.out HW.out)
          have B05 := Aside0.mk (B04.out.trans (O4.out.step r5))
          clear h5' r5
          obtain ⟨x0, x1, x2, x3, x4, x5, x6, x7, x8, x9, x10, x11⟩ := h_box12 KY5.out
          go_wp2_with fail
          clear x0 x1 x2 x3 x4 x5 x6 x7 x8 x9 x10 x11
          refine (IH.out k1 (by have := HK.out; omega) w0 _ y (d + 1) a g mb v5 om _ B05.out O5.out M5.out HW.out HCA.out (by have := HL.out; have e1 := HPR.out; have e2 := HRE.out; rw [← e1, ← e2] at this; simp [c6] at this ⊢; omega)).mono ?_
          rintro e w6 ⟨rfl, v6, h6', r6⟩
          have O6 := Aside0.mk h6'
          have R6 := Aside0.mk r6
          have M6 := Aside0.mk (h_map_keep O5.out r6 M5.out HW.out)
          have B06 := Aside0.mk (B05.out.trans (O5.out.step r6))
          clear h6' r6
          go_wp2_with fail
          go_roundg k1
          case measure => have := HK.out; omega
          case rel =>
            refine ⟨i + 1, by go_num, ⟨by omega⟩, ⟨pre ++ (toL s ++ (lineOf (d + 1) ++ a)), b, v6, HB.out, ?_, by simpa using O6.out, R3.out.trans ((OutR.of_below BY.out).trans (R4.out.trans (R5.out.trans R6.out))), M6.out, B06.out⟩, ⟨by have := HK.out; omega⟩⟩
            have e1 := HPR.out
            have e2 := HRE.out
            rw [← e1, ← e2]
            simp [c6]
        · have c6b : decide (0 < i) = false := decide_eq_false c6
          go_wp2_with fail
          clear p0 p1 p2 p3 p4 p5 p6 p7 p8 p9 p10 p11
          refine (h_line w0.heap.size g mb v3 _ (d + 1) _ OY.out (by omega) (by omega) (by have := HL.out; have e1 := HPR.out; have e2 := HRE.out; rw [← e1, ← e2] at this; simp [c6] at this ⊢; omega)).mono ?_
          rintro e w5 ⟨rfl, v5, h5', r5⟩
          have O5 := Aside0.mk h5'
          have R5 := Aside0.mk r5
          have KY5 := Aside0.mk (r5.blk KY.out YG.out YV.out)
          have M5 := Aside0.mk (h_map_keep OY.out r5 MY.out HW.out)
          have B05 := Aside0.mk (B0Y.out.trans (OY.out.step r5))
          clear h5' r5
          obtain ⟨x0, x1, x2, x3, x4, x5, x6, x7, x8, x9, x10, x11⟩ := h_box12 KY5.out
          go_wp2_with fail
          clear x0 x1 x2 x3 x4 x5 x6 x7 x8 x9 x10 x11
          refine (IH.out k1 (by have := HK.out; omega) w0 _ y (d + 1) a g mb v5 om _ B05.out O5.out M5.out HW.out HCA.out (by have := HL.out; have e1 := HPR.out; have e2 := HRE.out; rw [← e1, ← e2] at this; simp [c6] at this ⊢; omega)).mono ?_
          rintro e w6 ⟨rfl, v6, h6', r6⟩
          have O6 := Aside0.mk h6'
          have R6 := Aside0.mk r6
          have M6 := Aside0.mk (h_map_keep O5.out r6 M5.out HW.out)
          have B06 := Aside0.mk (B05.out.trans (O5.out.step r6))
          clear h6' r6
          go_wp2_with fail
          go_roundg k1
          case measure => have := HK.out; omega
          case rel =>
            refine ⟨i + 1, by go_num, ⟨by omega⟩, ⟨pre ++ ((lineOf (d + 1) ++ a)), b, v6, HB.out, ?_, by simpa using O6.out, R3.out.trans ((OutR.of_below BY.out).trans (R5.out.trans R6.out)), M6.out, B06.out⟩, ⟨by have := HK.out; omega⟩⟩
            have e1 := HPR.out
            have e2 := HRE.out
            rw [← e1, ← e2]
            simp [c6]
            intro h
            exact absurd h (by omega)
      · rw [if_neg c5] at hl
        obtain rfl := Option.some.inj hl
        have c5b : decide (i < (xs.length : Int)) = false := decide_eq_false c5
        have HPR := Aside0.mk hpr
        have O3 := Aside0.mk h3'
        have R3 := Aside0.mk r3
        clear hl hpr h3' r3 m3 b03 HA
        go_wp2_with fail
        refine (h_line w0.heap.size g mb v3 _ d _ O3.out (by omega) (by omega) (by have := HL.out; have e1 := HPR.out; rw [← e1] at this; simp at this ⊢; omega)).mono ?_
        rintro e w5 ⟨rfl, v5, h5', r5⟩
        have O5 := Aside0.mk h5'
        have R5 := Aside0.mk r5
        clear h5' r5
        go_wp2_with fail
        refine (h_put_at w0.heap.size g mb v5 _ [⟨#[125]⟩] _ 1 _ _ (by simp) O5.out rfl rfl (by have := HL.out; have e1 := HPR.out; rw [← e1] at this; simp at this ⊢; omega) (by simp)).mono ?_
        rintro e w6 ⟨rfl, v6, h6', r6⟩
        have O6 := Aside0.mk h6'
        have R6 := Aside0.mk r6
        clear h6' r6
        go_wp2_with fail
        go_end0
        refine ⟨rfl, v6, ?_, R1.out.trans (R3.out.trans (R5.out.trans R6.out))⟩
        have := O6.out
        rw [← HPR.out]
        simpa using this

-- IMPORT Derived.Outline Derived.Maps.Own Derived.Maps.StringElems Derived.Deep.RegionHeld3 Derived.Deep.LoopGhost
open Go.Maps in
/-- A map of strings by truth values, as the call made it. -/
def BMap (w : World) (b n : Nat) (D : DataW Unit) : Prop := w.ownsMap Tryd.prog 4 (plainElem Tryd.prog 9) b n D
open Go.Maps in
theorem BMap.made (w : World) : BMap (w.alloc (.map #[] 0)) w.heap.size 0 (.map []) := World.ownsMap_made _ _ _ _
open Go.Maps in
theorem BMap.below {w w' : World} {b n : Nat} {D : DataW Unit} (h : BMap w b n D) (hb : Below w.heap.size w w') : BMap w' b n D := by
  obtain ⟨es, clock, hm, F, hs, hD⟩ := h
  exact ⟨es, clock, (hb.block b (Array.getElem?_eq_some_iff.1 hm).1).trans hm, F, hs, hD⟩
open Go.Maps in
theorem BMap.put {w : World} {b n : Nat} {D : DataW Unit} (h : BMap w b n D) (hn : n < 100) (k : Bool) (s : ByteArray) (hs : s.size ≤ 100) :
    ∃ w', (Instr.mapUpdate 66 (.map (some b)) (.bool k) (.string s)).run Tryd.prog w = .ok () w' ∧ BMap w' b (n + 1) (D.put (.bool k) (.lit (.string s.data.toList))) ∧ w.grownBy w' (some b) := by
  have hv : plainElem (H := Unit) Tryd.prog 9 (.string s) = some (.lit (.string s.data.toList), []) := plainElem_string Tryd.underlying9 (by unfold maxLen; omega)
  obtain ⟨w', h1, h2, h3⟩ := World.ownsMap.update h (bool_keyed Tryd.underlying4) Tryd.underlying66 (by unfold maxLen; omega) (keyOf_bool_mk Tryd.underlying4 k) hv
  exact ⟨w', h1, h2, h3⟩
open Go.Maps in
theorem BMap.look {w : World} {b n : Nat} {D : DataW Unit} (h : BMap w b n D) (k : Bool) (s : ByteArray) (hD : D.atKey (.bool k) (.lit (.string [])) = .lit (.string s.data.toList)) :
    (Instr.lookup 66 (.map (some b)) (.bool k) false).run Tryd.prog w = .ok (.string s) w := by
  have hz : plainElem (H := Unit) Tryd.prog 9 (.string ⟨#[]⟩) = some (.lit (.string []), []) := plainElem_string Tryd.underlying9 (by decide)
  obtain ⟨v, ps, hr, hv⟩ := World.ownsMap.lookup h (bool_keyed Tryd.underlying4) Tryd.underlying66 (h_zeroStr w) hz (keyOf_bool_mk Tryd.underlying4 k)
  obtain ⟨u, rfl, hu, _⟩ := plainElem_string_inv Tryd.underlying9 hv
  rw [hD] at hu
  have e : s.data.toList = u.data.toList := by simpa using congrArg Prod.fst hu
  have e2 : s = u := by
    cases s; cases u
    simpa using e
  rw [e2]
  exact hr
theorem BMap.drew {w : World} {b n : Nat} {D : DataW Unit} (h : BMap w b n D) : BMap w.drew b n D := h
set_option maxRecDepth 100000 in
/-- A store into the map, in a region that draws. -/
theorem h_arm_put {o : Oper} {a : Act} {K : Act → World → Prop} {Q : Exit → Act → World → Prop} (wr : World) {W : World} {b n : Nat} {D : DataW Unit} {k : Bool} {s : ByteArray} (hm : BMap W b n D) (hB : Below wr.heap.size wr W) (hb : wr.heap.size ≤ b) (hn : n < 100) (hs : s.size ≤ 100)
    (H : ∀ w1, BMap w1 b (n + 1) (D.put (.bool k) (.lit (.string s.data.toList))) → Below wr.heap.size wr w1 → Oper.upon Tryd.prog o a K Q (Result.ok Next.skip w1)) :
    Oper.upon Tryd.prog o a K Q (((Instr.mapUpdate 66 (.map (some b)) (.bool k) (.string s)).run Tryd.prog W).andThen fun _ w' => Result.ok Next.skip w') := by
  obtain ⟨w1, e1, m1, g1⟩ := hm.put hn k s hs
  rw [e1]
  exact H w1 m1 (hB.grown g1 hB.size (fun k hk => by cases hk; exact hb))
def datD : DataW Unit := (DataW.put (DataW.put (.map []) (.bool true) (.lit (.string (⟨#[32, 111, 110, 32]⟩ : ByteArray).data.toList))) (.bool false) (.lit (.string (⟨#[44, 32]⟩ : ByteArray).data.toList)))
theorem datD_true : datD.atKey (.bool true) (.lit (.string [])) = .lit (.string (⟨#[32, 111, 110, 32]⟩ : ByteArray).data.toList) := by kernel_rfl
theorem datD_false : datD.atKey (.bool false) (.lit (.string [])) = .lit (.string (⟨#[44, 32]⟩ : ByteArray).data.toList) := by kernel_rfl
theorem datD_eq : (DataW.put (DataW.put (.map []) (.bool false) (.lit (.string (⟨#[44, 32]⟩ : ByteArray).data.toList))) (.bool true) (.lit (.string (⟨#[32, 111, 110, 32]⟩ : ByteArray).data.toList))) = datD := by kernel_rfl

-- IMPORT Derived.Outline Derived.Maps.Own Derived.Maps.StringElems Derived.Deep.RegionHeld3 Derived.Deep.LoopGhost
theorem h_cell_below {w w' : World} {b : Nat} {v : Value} {ty : TypeId} (h : w.heap[b]? = some (.cells #[v] ty (0, 0))) (hb : Below w.heap.size w w') : w'.cell? ⟨b, 0, none⟩ = some v := (blk_cell (blk_below h hb) 0).trans rfl
theorem h_cell_outR {w w' : World} {b g : Nat} {v x y : Value} {ty : TypeId} (h : w.heap[b]? = some (.cells #[v] ty (0, 0))) (hr : OutR g w x w' y) (hg : b ≠ g) (hx : x.ownBlock ≠ some b) : w'.cell? ⟨b, 0, none⟩ = some v := (blk_cell (hr.blk h hg hx) 0).trans rfl
def onOf (b : Bool) : ByteArray := if b then ⟨#[32, 111, 110, 32]⟩ else ⟨#[44, 32]⟩
theorem onOf_size (b : Bool) : (onOf b).size ≤ 4 := by cases b <;> decide
theorem datD_on (b : Bool) : datD.atKey (.bool b) (.lit (.string [])) = .lit (.string (onOf b).data.toList) := by cases b <;> kernel_rfl
theorem h_alloc_cell {W : World} {o : Obj} {p : Addr} {v : Value} (h : W.cell? p = some v) : (W.alloc o).cell? p = some v := (Below.cell (below_alloc (Below.refl _ _) o) (World.block_lt_of_cell? _ _ h)).trans h
theorem h_drew_alloc_cell {W : World} {o : Obj} {p : Addr} {v : Value} (h : W.drew.cell? p = some v) : (W.alloc o).drew.cell? p = some v := h_alloc_cell (W := W.drew) h
def DatSt (kq : Nat) (ds : List Int) (i : Int) (t : List UInt8) (w0 w w' : World) (g mb : Nat) (v : Value) (l : List UInt8) : Prop :=
  ∃ pre rest v', datL kq ds i = some rest ∧ pre ++ rest = t ∧ OutAt w0.heap.size w' g v' mb (l ++ pre) ∧ OutR g w v w' v' ∧ Below w0.heap.size w0 w'
set_option maxHeartbeats 4000000 in
set_option maxRecDepth 100000 in
theorem h_dates (k : Nat) (w0 w : World) (x : Nd0 w0) (B3 B4 : Nat) (t : List UInt8) (g mb : Nat) (v : Value) (l : List UInt8) (hB : Below w0.heap.size w0 w) (h : OutAt w0.heap.size w g v mb l)
    (hk3 : w.heap[B3]? = some (.cells #[.pointer (some ⟨g, 0, none⟩)] 47 (0, 0))) (hk4 : w.heap[B4]? = some (.cells x.cells 29 (0, 0))) (h3g : B3 ≠ g) (h3v : v.ownBlock ≠ some B3)
    (hf : datL k x.c.f6 0 = some t) (hlen : l.length + t.length + 4000 ≤ 140737488355328) :
    Calls Tryd.prog 31 #[.pointer (some ⟨B4, 0, none⟩), .pointer (some ⟨B3, 0, none⟩)] w fun e w' => e = .returned (.tuple #[]) ∧ ∃ v', OutAt w0.heap.size w' g v' mb (l ++ t) ∧ OutR g w v w' v' := by
  have HO := Aside0.mk h
  have HL := Aside0.mk hlen
  have HT := Aside0.mk hf
  have H0 := Aside0.mk hB
  have K3 := Aside0.mk hk3
  have G3 := Aside0.mk h3g
  have V3 := Aside0.mk h3v
  have hr10 := x.r10
  have hlm : x.c.f6.length ≤ 9223372036854775807 := Kd.C_len_le hr10
  have hmm := @run_makeMap Tryd.prog
  unfold Nd.cells at hk4
  obtain ⟨x0, x1, x2, x3, x4, x5, x6, x7, x8, x9, x10, x11⟩ := h_box12 hk4
  clear h hlen hf hB hk3 h3g h3v hk4
  go_enter Tryd.func31, Tryd.ntmps31
  go_wp2_with fail
  clear x0 x1 x2 x3 x4 x5 x6 x7 x8 x9 x10 x11
  go_loopg [7] k (fun kq v7 w' => ∃ i : Int, v7 = .int .i64 i ∧ Aside0 (0 ≤ i) ∧ Aside0 (DatSt kq x.c.f6 i t w0 w w' g mb v l) ∧ Aside0 (kq ≤ k))
  case atStart => exact ⟨0, rfl, ⟨Int.le_refl _⟩, ⟨[], t, v, HT.out, rfl, by simpa using HO.out, OutR.refl _ _ _, H0.out⟩, ⟨Nat.le_refl _⟩⟩
  case round =>
    clear HT
    obtain ⟨i, rfl, HI, HA, HK⟩ := hrel
    obtain ⟨pre, rest, v3, hl, hpr, h3', r3, b03⟩ := HA.out
    cases gk with
    | zero => exact absurd hl (by simp [datL])
    | succ k1 =>
      simp only [datL] at hl
      by_cases c5 : i < (x.c.f6.length : Int)
      · rw [if_pos c5] at hl
        obtain ⟨a, ha, hl2⟩ := Option.bind_eq_some_iff.mp hl
        obtain ⟨b, hb, hl3⟩ := Option.bind_eq_some_iff.mp hl2
        have hrest := Option.some.inj hl3
        clear hl hl2 hl3
        have i0 : 0 ≤ i := HI.out
        obtain ⟨ad, e5, p0⟩ := Kd.at_int hr10 i i0 c5
        rw [e5]
        replace p0 := pw_cell_below b03 p0
        obtain ⟨bk, hbk⟩ : ∃ bk : Bool, (i == 0) = bk := ⟨_, rfl⟩
        have hon : toL (onOf bk) = (if i = 0 then [32, 111, 110, 32] else [44, 32]) := by
          subst hbk; by_cases e : i = 0 <;> simp [onOf, e]
        have HON := Aside0.mk hon
        have HLN : Aside0 ((l ++ pre ++ ([onOf bk, a].map (·.data.toList)).flatten).length ≤ 140737488355328) := ⟨by have := HL.out; have e1 := hpr; have e2 := hrest; rw [← hon] at e2; rw [← e1, ← e2] at this; simp at this ⊢; omega⟩
        have HA2 := Aside0.mk ha
        have HB := Aside0.mk hb
        have HRE := Aside0.mk hrest
        have HPR := Aside0.mk hpr
        have O3 := Aside0.mk h3'
        have R3 := Aside0.mk r3
        have B03 := Aside0.mk b03
        have KR := Aside0.mk (r3.blk K3.out G3.out V3.out)
        have VR := Aside0.mk (r3.off (blk_lt K3.out) V3.out)
        have c5b : decide (i < (x.c.f6.length : Int)) = true := decide_eq_true c5
        clear ha hb hrest hpr h3' r3 b03 HA hon
        go_wp2_with fail
        refine Code.wp_mono (Q := fun e a' w' => e = .normal ∧ (∃ z8 z9 z10 z11 z12 z13 z14 z15 z16 z17 z18 z19 z20 z21 z22, a' = { tmps := #[.pointer (some ⟨B4, 0, none⟩), .pointer (some ⟨B3, 0, none⟩), .int .i64 i, .int .i64 (rd x.c.f6 i), .pointer (some ⟨B4, 10, none⟩), .slice (some ad) x.c.f6.length x.c10, .int .i64 x.c.f6.length, .int .i64 i, z8, z9, z10, z11, z12, z13, z14, z15, z16, z17, z18, z19, z20, z21, z22], defers := [] }) ∧ Aside0 (∃ v9, OutAt w0.heap.size w' g v9 mb (l ++ pre ++ ([onOf bk, a].map (·.data.toList)).flatten) ∧ OutR g wr v3 w' v9)) ?rest ?first
        case first =>
          have y3 : wr.drew.cell? ⟨B3, 0, none⟩ = some (.pointer (some ⟨g, 0, none⟩)) := (blk_cell (w := wr.drew) (blk_drew KR.out) 0).trans rfl
          clear p0 c5b e5 hr10 hlm i0 c5 H0 HB B03 R3 K3 V3 HO HI HK HPR HRE HL HON
          refine wp_region_noPanic ?_
          go_region_held3 (fun w' => w'.cell? ⟨B3, 0, none⟩ = some (.pointer (some ⟨g, 0, none⟩)))
            (with_reducible (first
              | assumption
              | exact h_alloc_cell (by assumption)
              | exact h_drew_alloc_cell (by assumption)
              | exact h_cell_below KR.out (Aside0.out (by assumption))
              | exact h_cell_outR KR.out (Aside0.out (by assumption)) G3.out VR.out))
            (first
            | (with_reducible refine h_arm_put wr (n := 0) (D := (.map [])) (k := true) ?hm ?hB ?hb (by decide) (by decide) ?_; (case hm => (with_reducible first | exact Aside0.out (by assumption) | exact BMap.made _ | exact BMap.drew (BMap.made _))); (case hB => (with_reducible first | exact Aside0.out (by assumption) | exact below_drew1 (below_alloc (Below.refl _ _) _) | exact below_alloc (Aside0.out (by assumption)) _)); (case hb => (first | exact Nat.le_refl _ | exact Below.size (Aside0.out (p := Below wr.heap.size wr _) (by with_reducible assumption)))); intro w1 m1 g1; have M1 : Aside0 (BMap w1 _ 1 (DataW.put (.map []) (.bool true) (.lit (.string (⟨#[32, 111, 110, 32]⟩ : ByteArray).data.toList)))) := Aside0.mk m1; have G1 := Aside0.mk g1; clear m1 g1)
            | (with_reducible refine h_arm_put wr (n := 1) (D := (DataW.put (.map []) (.bool true) (.lit (.string (⟨#[32, 111, 110, 32]⟩ : ByteArray).data.toList)))) (k := false) ?hm ?hB ?hb (by decide) (by decide) ?_; (case hm => (with_reducible first | exact Aside0.out (by assumption) | exact BMap.made _ | exact BMap.drew (BMap.made _))); (case hB => (with_reducible first | exact Aside0.out (by assumption) | exact below_drew1 (below_alloc (Below.refl _ _) _) | exact below_alloc (Aside0.out (by assumption)) _)); (case hb => (first | exact Nat.le_refl _ | exact Below.size (Aside0.out (p := Below wr.heap.size wr _) (by with_reducible assumption)))); intro w1 m1 g1; have M1 : Aside0 (BMap w1 _ 2 datD) := Aside0.mk m1; have G1 := Aside0.mk g1; have lk := BMap.look M1.out bk (onOf bk) (datD_on bk); clear m1 g1)
            | (with_reducible refine h_arm_put wr (n := 0) (D := (.map [])) (k := false) ?hm ?hB ?hb (by decide) (by decide) ?_; (case hm => (with_reducible first | exact Aside0.out (by assumption) | exact BMap.made _ | exact BMap.drew (BMap.made _))); (case hB => (with_reducible first | exact Aside0.out (by assumption) | exact below_drew1 (below_alloc (Below.refl _ _) _) | exact below_alloc (Aside0.out (by assumption)) _)); (case hb => (first | exact Nat.le_refl _ | exact Below.size (Aside0.out (p := Below wr.heap.size wr _) (by with_reducible assumption)))); intro w1 m1 g1; have M1 : Aside0 (BMap w1 _ 1 (DataW.put (.map []) (.bool false) (.lit (.string (⟨#[44, 32]⟩ : ByteArray).data.toList)))) := Aside0.mk m1; have G1 := Aside0.mk g1; clear m1 g1)
            | (with_reducible refine h_arm_put wr (n := 1) (D := (DataW.put (.map []) (.bool false) (.lit (.string (⟨#[44, 32]⟩ : ByteArray).data.toList)))) (k := true) ?hm ?hB ?hb (by decide) (by decide) ?_; (case hm => (with_reducible first | exact Aside0.out (by assumption) | exact BMap.made _ | exact BMap.drew (BMap.made _))); (case hB => (with_reducible first | exact Aside0.out (by assumption) | exact below_drew1 (below_alloc (Below.refl _ _) _) | exact below_alloc (Aside0.out (by assumption)) _)); (case hb => (first | exact Nat.le_refl _ | exact Below.size (Aside0.out (p := Below wr.heap.size wr _) (by with_reducible assumption)))); intro w1 m1 g1; have M1 : Aside0 (BMap w1 _ 2 datD) := Aside0.mk (datD_eq ▸ m1); have G1 := Aside0.mk g1; have lk := BMap.look M1.out bk (onOf bk) (datD_on bk); clear m1 g1)
            | (go_at_call 33; refine (printer_day.calls k1 _ _ _ HA2.out).mono ?_; rintro e w4 ⟨rfl, hb⟩; have G4 : Aside0 (Below wr.heap.size wr w4) := ⟨below_step (by with_reducible (first | exact Aside0.out (by assumption) | exact below_drew1 (Below.refl _ _) | exact below_drew1 (below_alloc (Below.refl _ _) _))) hb⟩; (try with_reducible have M4 := Aside0.mk (BMap.below (by with_reducible first | exact Aside0.out (by assumption) | exact BMap.drew (BMap.made _)) hb)); (try with_reducible have lk := BMap.look (n := 2) (D := datD) M4.out bk (onOf bk) (datD_on bk)); clear hb)
            | (go_at_call 32; refine (h_put_at w0.heap.size g mb v3 _ [onOf bk, a] _ 2 _ _ (by simp) (O3.out.below (by with_reducible exact Aside0.out (by assumption))) rfl rfl HLN.out (by simp)).mono ?_; rintro e w9 ⟨rfl, v9, h9, r9⟩; have R9 := Aside0.mk ((OutR.of_below (by with_reducible exact Aside0.out (p := Below wr.heap.size wr _) (by assumption))).trans r9); have O9 := Aside0.mk h9; clear h9 r9))
          all_goals
            refine NoPanic.normal ?_
            exact ⟨rfl, ⟨_, _, _, _, _, _, _, _, _, _, _, _, _, _, _, rfl⟩, ⟨_, O9.out, R9.out⟩⟩
        case rest =>
          rintro e a' w' ⟨rfl, ⟨z8, z9, z10, z11, z12, z13, z14, z15, z16, z17, z18, z19, z20, z21, z22, rfl⟩, hcut⟩
          obtain ⟨v9, h9, r9⟩ := hcut.out
          have O9 := Aside0.mk h9
          have R9 := Aside0.mk r9
          clear h9 r9 hcut
          rw [← e5]
          go_wp2_with fail
          go_roundg k1
          case measure => have := HK.out; omega
          case rel =>
            refine ⟨i + 1, by go_num, ⟨by have := HI.out; omega⟩, ⟨pre ++ (toL (onOf bk) ++ toL a), b, v9, HB.out, ?_, by simpa using O9.out, R3.out.trans R9.out, B03.out.trans (O3.out.step R9.out)⟩, ⟨by have := HK.out; omega⟩⟩
            have e1 := HPR.out
            have e2 := HRE.out
            rw [← HON.out] at e2
            rw [← e1, ← e2]
            simp
      · rw [if_neg c5] at hl
        obtain rfl := Option.some.inj hl
        have c5b : decide (i < (x.c.f6.length : Int)) = false := decide_eq_false c5
        have HPR := Aside0.mk hpr
        have O3 := Aside0.mk h3'
        have R3 := Aside0.mk r3
        clear hl hpr h3' r3 b03 HA
        go_wp2_with fail
        go_end0
        refine ⟨rfl, v3, ?_, R3.out⟩
        have := O3.out
        rw [← HPR.out]
        simpa using this

end Go.Proofs.YtalaekadkjhldaaDoor.Pr
