/- A part of the proof of the statement PrinterNames (the printer's examples, further texts and errors): contracts of functions of the program, proved by walking their text. -/
import Derived.Test.YtalaekadkjhldaaDoorPn0
import Derived.Test.YtalaekadkjhldaaDoorPn1
import Derived.Test.YtalaekadkjhldaaDoorPn2
import Derived.Test.YtalaekadkjhldaaDoorPn3
import Derived.Test.YtalaekadkjhldaaDoorPn4
import Derived.Test.YtalaekadkjhldaaDoorPn5
import Derived.Test.YtalaekadkjhldaaDoorPn6
import Derived.Outline
import Derived.Deep.RegionHeld3
import Derived.Deep.LoopGhost
import Derived.Test.YtalaekadkjhldaaDoorShelf
import Derived.Test.YtalaekadkjhldaaDoorHa
import Derived.Test.YtalaekadkjhldaaDoorHb
import Derived.Test.YtalaekadkjhldaaDoorHc
import Derived.Test.YtalaekadkjhldaaDoorHd
import Derived.Test.YtalaekadkjhldaaDoorHe
import Derived.Test.YtalaekadkjhldaaDoorHf
import Derived.Test.YtalaekadkjhldaaDoorHg
import Derived.Test.YtalaekadkjhldaaDoorHh
import Derived.Test.YtalaekadkjhldaaDoorHi
import Derived.Test.YtalaekadkjhldaaDoorHj
import Derived.Test.YtalaekadkjhldaaDoorHk
import Derived.Test.YtalaekadkjhldaaDoorHl
namespace Go.Proofs.YtalaekadkjhldaaDoor.Pr
open Go.RowKit Go.Proofs.YtalaekadkjhldaaDoorW.PrintWords Go.Proofs.YtalaekadkjhldaaDoorW.PrintLast Go.Proofs.YtalaekadkjhldaaDoorW.PrintMore
attribute [local go_sem] max2_int min2_int max_two min_two max_three min_three max_four min_four
set_option linter.unusedVariables false
set_option linter.unusedSimpArgs false
-- IMPORT Derived.Outline Derived.Deep.RegionHeld3 Derived.Deep.LoopGhost
set_option maxHeartbeats 16000000 in
set_option maxRecDepth 100000 in
theorem h_ctr_6 (k : Nat) (ih : ∀ m, m < k → CtrSaid m) (w0 w : World) (x : Nd0 w0) (hk : x.c.f0 = 6) (d : Int) (g mb : Nat) (v : Value) (om : Obj) (l : List UInt8) (dy : ByteArray) (hdy : printer_day.f k x.c.f5 = some dy) (r : List UInt8) (hr : subL k x.c.f7 d 0 = some r)
    (hd0 : 0 ≤ d) (hd1 : d ≤ 900) (hB : Below w0.heap.size w0 w) (h : OutAt w0.heap.size w g v mb l) (hm : w.heap[mb]? = some om) (hw : WordsOK mb om) (hlen : l.length + (([111, 110, 32] ++ toL dy) ++ r).length + 4000 ≤ 140737488355328) :
    Calls Tryd.prog 20 #[.pointer (some ⟨g, 0, none⟩), .agg x.cells, .int .i64 d] w fun e w' => e = .returned (.tuple #[]) ∧ ∃ v', OutAt w0.heap.size w' g v' mb (l ++ (([111, 110, 32] ++ toL dy) ++ r)) ∧ OutR g w v w' v' := by
  have c0 := CtrAt.start x h hm hB
  have r0 : OutR g w v ((w.alloc (.cells #[.pointer (some ⟨g, 0, none⟩)] 47)).alloc (.cells x.cells 29)) v := OutR.of_below (below_step (below_alloc (Below.refl _ _) _) (below_alloc (Below.refl _ _) _))
  have HW := Aside0.mk hw
  have HL := Aside0.mk hlen
  have IH := Aside0.mk ih
  have Hdy := Aside0.mk hdy
  have Hr := Aside0.mk hr
  have hr8 := Aside0.mk x.r8
  have hlm : x.c.f7.length ≤ 9223372036854775807 := Kd.C_len_le x.r11
  unfold Nd.cells at c0 r0 ⊢
  rw [hk] at c0 r0 ⊢
  have C0 := Aside0.mk c0
  have R0 := Aside0.mk r0
  have HK := Aside0.mk hk
  obtain ⟨y3, x0, x1, x2, x3, x4, x5, x6, x7, x8, x9, x10, x11⟩ := C0.out.cells
  rw [hk] at x0
  clear c0 r0 hk h hm hB hw hlen ih hdy hr
  go_enter Tryd.func20, Tryd.ntmps20
  go_wp2_with fail
  have D0 := Aside0.mk (C0.out.below (below_drew1 (Below.refl _ _)))
  have Q0 := Aside0.mk (R0.out.trans (OutR.of_below (g := g) (v := v) (below_drew1 (Below.refl _ _))))
  clear y3 x0 x1 x2 x3 x4 x5 x6 x7 x8 x9 x10 x11
  go_region_held3 (fun w' => w'.cell? ⟨w.heap.size, 0, none⟩ = some (.pointer (some ⟨g, 0, none⟩)) ∧ w'.cell? ⟨w.heap.size + 1, 1, none⟩ = some (.string x.c.f1) ∧ w'.cell? ⟨w.heap.size + 1, 2, none⟩ = some (.string x.c.f2) ∧ w'.cell? ⟨w.heap.size + 1, 3, none⟩ = some (.string x.c.f3) ∧ w'.cell? ⟨w.heap.size + 1, 9, none⟩ = some (.int .i64 x.c.f5))
    (with_reducible (first
      | exact CtrAt.five (Aside0.out (by assumption))
      | exact CtrAt.five (CtrAt.below (Aside0.out (by assumption)) (below_alloc (Below.refl _ _) _))))
    (first
      | (go_at_call 33; (with_reducible refine (printer_day.calls k _ _ _ Hdy.out).mono ?_); rintro e wq ⟨rfl, hb⟩; have CN := Aside0.mk (CtrAt.below (by with_reducible exact Aside0.out (by assumption)) hb); have QN := Aside0.mk (OutR.trans (g := g) (v := v) (v1 := v) (by with_reducible exact Aside0.out (by assumption)) (OutR.of_below hb)); clear hb)
      | (go_at_call 32; refine (h_put_at w0.heap.size g mb v _ [⟨#[111, 110, 32]⟩, dy] _ 2 _ _ (by simp) (CtrAt.O (by with_reducible exact Aside0.out (p := CtrAt w0 _ x _ _ g mb v om _) (by assumption))) rfl rfl (by have := HL.out; simp at this ⊢; omega) (by simp)).mono ?_; rintro e w1 ⟨rfl, v1, h1, r1⟩; have C1 := Aside0.mk (CtrAt.step (by with_reducible exact Aside0.out (p := CtrAt w0 _ x _ _ g mb v om _) (by assumption)) h1 r1 HW.out); have R1 := Aside0.mk (OutR.trans (g := g) (v := v) (v1 := v) (by with_reducible exact Aside0.out (by assumption)) r1); clear h1 r1))
  obtain ⟨y3, x0, x1, x2, x3, x4, x5, x6, x7, x8, x9, x10, x11⟩ := C1.out.cells
  rw [HK.out] at x0
  have CL : Aside0 (CtrAt w0 w1 x w.heap.size (w.heap.size + 1) g mb v1 om (l ++ ([111, 110, 32] ++ toL dy))) := ⟨by simpa using C1.out⟩
  go_wp2_with fail
  clear y3 x0 x1 x2 x3 x4 x5 x6 x7 x8 x9 x10 x11
  go_loopg [119] k (fun kq v119 w' => ∃ i : Int, v119 = .int .i64 i ∧ Aside0 (0 ≤ i) ∧ Aside0 (SubSt kq x i d r w0 w w' w.heap.size (w.heap.size + 1) g mb v om (l ++ ([111, 110, 32] ++ toL dy))) ∧ Aside0 (kq ≤ k))
  case atStart => exact ⟨0, rfl, ⟨Int.le_refl _⟩, ⟨[], r, _, Hr.out, rfl, by simpa using CL.out, R1.out⟩, ⟨Nat.le_refl _⟩⟩
  case round =>
    clear Hr
    obtain ⟨i, rfl, HI, HA, HQ⟩ := hrel
    obtain ⟨pre, rest, v3, hl, hpr, hC, hR⟩ := HA.out
    cases gk with
    | zero => exact absurd hl (by simp [subL])
    | succ k1 =>
      simp only [subL] at hl
      by_cases c5 : i < (x.c.f7.length : Int)
      · rw [if_pos c5] at hl
        obtain ⟨a, ha, hl2⟩ := Option.bind_eq_some_iff.mp hl
        obtain ⟨b, hb, hl3⟩ := Option.bind_eq_some_iff.mp hl2
        have hrest := Option.some.inj hl3
        clear hl hl2 hl3 HA
        have i0 : 0 ≤ i := HI.out
        obtain ⟨y, ad, e5, hyc, p0, p1, p2, p3, p4, p5, p6, p7, p8, p9, p10, p11⟩ := x.sub i i0 c5
        rw [← hyc] at ha
        rw [e5]
        replace p0 := pw_cell_below hC.B p0
        replace p1 := pw_cell_below hC.B p1
        replace p2 := pw_cell_below hC.B p2
        replace p3 := pw_cell_below hC.B p3
        replace p4 := pw_cell_below hC.B p4
        replace p5 := pw_cell_below hC.B p5
        replace p6 := pw_cell_below hC.B p6
        replace p7 := pw_cell_below hC.B p7
        replace p8 := pw_cell_below hC.B p8
        replace p9 := pw_cell_below hC.B p9
        replace p10 := pw_cell_below hC.B p10
        replace p11 := pw_cell_below hC.B p11
        obtain ⟨bk, hbk⟩ : ∃ bk : Bool, (i == 0) = bk := ⟨_, rfl⟩
        have hon : toL (elsOf bk) = (if i = 0 then [32] else [32, 101, 108, 115, 101, 32]) := by
          subst hbk; by_cases e : i = 0 <;> simp [elsOf, e]
        have HON := Aside0.mk hon
        have HA2 := Aside0.mk ha
        have HB := Aside0.mk hb
        have HRE := Aside0.mk hrest
        have HPR := Aside0.mk hpr
        have c5b : decide (i < (x.c.f7.length : Int)) = true := decide_eq_true c5
        have by1 := below_alloc (Below.refl wr.heap.size wr) (.cells #[.int .u8 y.c.f0, .string y.c.f1, .string y.c.f2, .string y.c.f3, .int .u8 y.c.f4.f0, .string y.c.f4.f1, .string y.c.f4.f2, .int .i64 y.c.f4.f3, .slice y.A8 y.c.f4.f4.length y.c8, .int .i64 y.c.f5, .slice y.A10 y.c.f6.length y.c10, .slice y.A11 y.c.f7.length y.c11] 29)
        have BY := Aside0.mk by1
        have CY := Aside0.mk (hC.below by1)
        have KY := Aside0.mk (blk_new wr (.cells #[.int .u8 y.c.f0, .string y.c.f1, .string y.c.f2, .string y.c.f3, .int .u8 y.c.f4.f0, .string y.c.f4.f1, .string y.c.f4.f2, .int .i64 y.c.f4.f3, .slice y.A8 y.c.f4.f4.length y.c8, .int .i64 y.c.f5, .slice y.A10 y.c.f6.length y.c10, .slice y.A11 y.c.f7.length y.c11] 29))
        have RY := Aside0.mk (hR.trans (OutR.of_below (g := g) (v := v3) by1))
        obtain ⟨yg, yv⟩ := h_fresh hC.O
        have YG := Aside0.mk yg
        have YV := Aside0.mk yv
        have y3 := CY.out.box
        clear ha hb hrest hpr hon hyc by1 yg yv hC hR
        go_wp2_with fail
        clear p0 p1 p2 p3 p4 p5 p6 p7 p8 p9 p10 p11 y3
        have y3 := CY.out.box
        generalize wr.alloc (.cells #[.int .u8 y.c.f0, .string y.c.f1, .string y.c.f2, .string y.c.f3, .int .u8 y.c.f4.f0, .string y.c.f4.f1, .string y.c.f4.f2, .int .i64 y.c.f4.f3, .slice y.A8 y.c.f4.f4.length y.c8, .int .i64 y.c.f5, .slice y.A10 y.c.f6.length y.c10, .slice y.A11 y.c.f7.length y.c11] 29) = W1 at CY KY RY y3 ⊢
        generalize wr.heap.size = gy at KY YG YV ⊢
        rw [@run_makeMap Tryd.prog]
        simp only [Result.andThen]
        rw [Oper.upon_value]
        go_wp2_with (first
          | ((with_reducible refine h_arm_put W1 (n := 0) (D := (.map [])) (k := true) (BMap.made _) (below_alloc (Below.refl _ _) _) (Nat.le_refl _) (by decide) (by decide) ?_); intro wa ma ga; have MA := Aside0.mk ma; have GA := Aside0.mk ga; clear ma ga)
          | ((with_reducible refine h_arm_put W1 (n := 1) (D := (DataW.put (.map []) (.bool true) (.lit (.string (⟨#[32]⟩ : ByteArray).data.toList)))) (k := false) MA.out GA.out (Nat.le_refl _) (by decide) (by decide) ?_); intro wb mc gb; have MB : Aside0 (BMap wb W1.heap.size 2 elsD) := Aside0.mk mc; have GB := Aside0.mk gb; have CB := Aside0.mk (CY.out.below GB.out); have lk := BMap.look MB.out bk (elsOf bk) (elsD_on bk); clear mc gb y3; obtain ⟨y3, x0, x1, x2, x3, x4, x5, x6, x7, x8, x9, x10, x11⟩ := CB.out.cells; rw [HK.out] at x0))
        clear lk y3 x0 x1 x2 x3 x4 x5 x6 x7 x8 x9 x10 x11
        refine (h_put_at w0.heap.size g mb v3 _ [(elsOf bk)] _ 1 _ _ (by simp) CB.out.O rfl rfl (by have := HL.out; have e1 := HPR.out; have e2 := HRE.out; rw [← HON.out] at e2; rw [← e1, ← e2] at this; simp at this ⊢; omega) (by simp)).mono ?_
        rintro e w7 ⟨rfl, v7, h7, r7⟩
        have KB := Aside0.mk (blk_below KY.out GB.out)
        have C7 := Aside0.mk (CB.out.step h7 r7 HW.out)
        have K7 := Aside0.mk (r7.blk KB.out YG.out YV.out)
        have R7 := Aside0.mk ((RY.out.trans (OutR.of_below (g := g) (v := v3) GB.out)).trans r7)
        clear h7 r7 hbk c5b
        have y3 := C7.out.box
        obtain ⟨z0, z1, z2, z3, z4, z5, z6, z7, z8, z9, z10, z11⟩ := h_box12 K7.out
        go_wp2_with fail
        clear y3 z0 z1 z2 z3 z4 z5 z6 z7 z8 z9 z10 z11
        have bc := below_alloc (Below.refl w7.heap.size w7) (.cells #[.int .u8 y.c.f0, .string y.c.f1, .string y.c.f2, .string y.c.f3, .int .u8 y.c.f4.f0, .string y.c.f4.f1, .string y.c.f4.f2, .int .i64 y.c.f4.f3, .slice y.A8 y.c.f4.f4.length y.c8, .int .i64 y.c.f5, .slice y.A10 y.c.f6.length y.c10, .slice y.A11 y.c.f7.length y.c11] 29)
        have hs1 := h_subs_one y C7.out.O
        unfold Nd.cells at hs1
        refine (h_braces k1 (fun m hm => IH.out m (by have := HQ.out; omega)) w0 _ ⟨#[]⟩ _ [y] _ _ rfl d a g mb v7 om _ hd0 hd1 (C7.out.below bc).B (C7.out.below bc).O (C7.out.below bc).M HW.out hs1 HA2.out (by have := HL.out; have e1 := HPR.out; have e2 := HRE.out; rw [← HON.out] at e2; rw [← e1, ← e2] at this; simp at this ⊢; omega)).mono ?_
        rintro e w8 ⟨rfl, v8, h8, r8⟩
        have C8 := Aside0.mk ((C7.out.below bc).step h8 r8 HW.out)
        have R8 := Aside0.mk (R7.out.trans ((OutR.of_below (g := g) (v := v7) bc).trans r8))
        clear h8 r8 bc hs1
        rw [← e5]
        clear e5
        go_wp2_with fail
        go_roundg k1
        case measure => have := HQ.out; omega
        case rel =>
          refine ⟨i + 1, by go_num, ⟨by omega⟩, ⟨pre ++ (toL (elsOf bk) ++ ([123] ++ (a ++ (lineOf d ++ [125])))), b, v8, HB.out, ?_, by simpa using C8.out, R8.out⟩, ⟨by have := HQ.out; omega⟩⟩
          have e1 := HPR.out
          have e2 := HRE.out
          rw [← HON.out] at e2
          rw [← e1, ← e2]
          simp
      · rw [if_neg c5] at hl
        obtain rfl := Option.some.inj hl
        have c5b : decide (i < (x.c.f7.length : Int)) = false := decide_eq_false c5
        have C7 := Aside0.mk hC
        have R7 := Aside0.mk hR
        have HPR := Aside0.mk hpr
        clear hl hpr hC hR HA
        go_wp2_with fail
        go_end0
        refine ⟨rfl, v3, ?_, R7.out⟩
        have := C7.out.O
        rw [← HPR.out]
        simpa using this
set_option maxHeartbeats 16000000 in
set_option maxRecDepth 100000 in
theorem h_ctr_7 (k : Nat) (ih : ∀ m, m < k → CtrSaid m) (w0 w : World) (x : Nd0 w0) (hk : x.c.f0 = 7) (d : Int) (g mb : Nat) (v : Value) (om : Obj) (l : List UInt8) (n3 : ByteArray) (hn3 : printer_name.f k x.c.f3 = some n3) (n1 : ByteArray) (hn1 : printer_name.f k x.c.f1 = some n1) (r : List UInt8) (hr : subL k x.c.f7 d 0 = some r)
    (hd0 : 0 ≤ d) (hd1 : d ≤ 900) (hB : Below w0.heap.size w0 w) (h : OutAt w0.heap.size w g v mb l) (hm : w.heap[mb]? = some om) (hw : WordsOK mb om) (hlen : l.length + (([99, 104, 111, 105, 99, 101, 32] ++ (toL n3 ++ ([32, 98, 121, 32] ++ toL n1))) ++ r).length + 4000 ≤ 140737488355328) :
    Calls Tryd.prog 20 #[.pointer (some ⟨g, 0, none⟩), .agg x.cells, .int .i64 d] w fun e w' => e = .returned (.tuple #[]) ∧ ∃ v', OutAt w0.heap.size w' g v' mb (l ++ (([99, 104, 111, 105, 99, 101, 32] ++ (toL n3 ++ ([32, 98, 121, 32] ++ toL n1))) ++ r)) ∧ OutR g w v w' v' := by
  have c0 := CtrAt.start x h hm hB
  have r0 : OutR g w v ((w.alloc (.cells #[.pointer (some ⟨g, 0, none⟩)] 47)).alloc (.cells x.cells 29)) v := OutR.of_below (below_step (below_alloc (Below.refl _ _) _) (below_alloc (Below.refl _ _) _))
  have HW := Aside0.mk hw
  have HL := Aside0.mk hlen
  have IH := Aside0.mk ih
  have Hn3 := Aside0.mk hn3
  have Hn1 := Aside0.mk hn1
  have Hr := Aside0.mk hr
  have hr8 := Aside0.mk x.r8
  have hlm : x.c.f7.length ≤ 9223372036854775807 := Kd.C_len_le x.r11
  unfold Nd.cells at c0 r0 ⊢
  rw [hk] at c0 r0 ⊢
  have C0 := Aside0.mk c0
  have R0 := Aside0.mk r0
  have HK := Aside0.mk hk
  obtain ⟨y3, x0, x1, x2, x3, x4, x5, x6, x7, x8, x9, x10, x11⟩ := C0.out.cells
  rw [hk] at x0
  clear c0 r0 hk h hm hB hw hlen ih hn3 hn1 hr
  go_enter Tryd.func20, Tryd.ntmps20
  go_wp2_with fail
  have D0 := Aside0.mk (C0.out.below (below_drew1 (Below.refl _ _)))
  have Q0 := Aside0.mk (R0.out.trans (OutR.of_below (g := g) (v := v) (below_drew1 (Below.refl _ _))))
  clear y3 x0 x1 x2 x3 x4 x5 x6 x7 x8 x9 x10 x11
  go_region_held3 (fun w' => w'.cell? ⟨w.heap.size, 0, none⟩ = some (.pointer (some ⟨g, 0, none⟩)) ∧ w'.cell? ⟨w.heap.size + 1, 1, none⟩ = some (.string x.c.f1) ∧ w'.cell? ⟨w.heap.size + 1, 2, none⟩ = some (.string x.c.f2) ∧ w'.cell? ⟨w.heap.size + 1, 3, none⟩ = some (.string x.c.f3) ∧ w'.cell? ⟨w.heap.size + 1, 9, none⟩ = some (.int .i64 x.c.f5))
    (with_reducible (first
      | exact CtrAt.five (Aside0.out (by assumption))
      | exact CtrAt.five (CtrAt.below (Aside0.out (by assumption)) (below_alloc (Below.refl _ _) _))))
    (first
      | (go_at_call 25; (with_reducible refine (printer_name.calls k _ _ _ Hn3.out).mono ?_); rintro e wq ⟨rfl, hb⟩; have CN := Aside0.mk (CtrAt.below (by with_reducible exact Aside0.out (by assumption)) hb); have QN := Aside0.mk (OutR.trans (g := g) (v := v) (v1 := v) (by with_reducible exact Aside0.out (by assumption)) (OutR.of_below hb)); clear hb)
      | (go_at_call 25; (with_reducible refine (printer_name.calls k _ _ _ Hn1.out).mono ?_); rintro e wq ⟨rfl, hb⟩; have CN := Aside0.mk (CtrAt.below (by with_reducible exact Aside0.out (by assumption)) hb); have QN := Aside0.mk (OutR.trans (g := g) (v := v) (v1 := v) (by with_reducible exact Aside0.out (by assumption)) (OutR.of_below hb)); clear hb)
      | (go_at_call 32; refine (h_put_at w0.heap.size g mb v _ [⟨#[99, 104, 111, 105, 99, 101, 32]⟩, n3, ⟨#[32, 98, 121, 32]⟩, n1] _ 4 _ _ (by simp) (CtrAt.O (by with_reducible exact Aside0.out (p := CtrAt w0 _ x _ _ g mb v om _) (by assumption))) rfl rfl (by have := HL.out; simp at this ⊢; omega) (by simp)).mono ?_; rintro e w1 ⟨rfl, v1, h1, r1⟩; have C1 := Aside0.mk (CtrAt.step (by with_reducible exact Aside0.out (p := CtrAt w0 _ x _ _ g mb v om _) (by assumption)) h1 r1 HW.out); have R1 := Aside0.mk (OutR.trans (g := g) (v := v) (v1 := v) (by with_reducible exact Aside0.out (by assumption)) r1); clear h1 r1))
  obtain ⟨y3, x0, x1, x2, x3, x4, x5, x6, x7, x8, x9, x10, x11⟩ := C1.out.cells
  rw [HK.out] at x0
  have CL : Aside0 (CtrAt w0 w1 x w.heap.size (w.heap.size + 1) g mb v1 om (l ++ ([99, 104, 111, 105, 99, 101, 32] ++ (toL n3 ++ ([32, 98, 121, 32] ++ toL n1))))) := ⟨by simpa using C1.out⟩
  go_wp2_with fail
  clear y3 x0 x1 x2 x3 x4 x5 x6 x7 x8 x9 x10 x11
  go_loopg [119] k (fun kq v119 w' => ∃ i : Int, v119 = .int .i64 i ∧ Aside0 (0 ≤ i) ∧ Aside0 (SubSt kq x i d r w0 w w' w.heap.size (w.heap.size + 1) g mb v om (l ++ ([99, 104, 111, 105, 99, 101, 32] ++ (toL n3 ++ ([32, 98, 121, 32] ++ toL n1))))) ∧ Aside0 (kq ≤ k))
  case atStart => exact ⟨0, rfl, ⟨Int.le_refl _⟩, ⟨[], r, _, Hr.out, rfl, by simpa using CL.out, R1.out⟩, ⟨Nat.le_refl _⟩⟩
  case round =>
    clear Hr
    obtain ⟨i, rfl, HI, HA, HQ⟩ := hrel
    obtain ⟨pre, rest, v3, hl, hpr, hC, hR⟩ := HA.out
    cases gk with
    | zero => exact absurd hl (by simp [subL])
    | succ k1 =>
      simp only [subL] at hl
      by_cases c5 : i < (x.c.f7.length : Int)
      · rw [if_pos c5] at hl
        obtain ⟨a, ha, hl2⟩ := Option.bind_eq_some_iff.mp hl
        obtain ⟨b, hb, hl3⟩ := Option.bind_eq_some_iff.mp hl2
        have hrest := Option.some.inj hl3
        clear hl hl2 hl3 HA
        have i0 : 0 ≤ i := HI.out
        obtain ⟨y, ad, e5, hyc, p0, p1, p2, p3, p4, p5, p6, p7, p8, p9, p10, p11⟩ := x.sub i i0 c5
        rw [← hyc] at ha
        rw [e5]
        replace p0 := pw_cell_below hC.B p0
        replace p1 := pw_cell_below hC.B p1
        replace p2 := pw_cell_below hC.B p2
        replace p3 := pw_cell_below hC.B p3
        replace p4 := pw_cell_below hC.B p4
        replace p5 := pw_cell_below hC.B p5
        replace p6 := pw_cell_below hC.B p6
        replace p7 := pw_cell_below hC.B p7
        replace p8 := pw_cell_below hC.B p8
        replace p9 := pw_cell_below hC.B p9
        replace p10 := pw_cell_below hC.B p10
        replace p11 := pw_cell_below hC.B p11
        obtain ⟨bk, hbk⟩ : ∃ bk : Bool, (i == 0) = bk := ⟨_, rfl⟩
        have hon : toL (elsOf bk) = (if i = 0 then [32] else [32, 101, 108, 115, 101, 32]) := by
          subst hbk; by_cases e : i = 0 <;> simp [elsOf, e]
        have HON := Aside0.mk hon
        have HA2 := Aside0.mk ha
        have HB := Aside0.mk hb
        have HRE := Aside0.mk hrest
        have HPR := Aside0.mk hpr
        have c5b : decide (i < (x.c.f7.length : Int)) = true := decide_eq_true c5
        have by1 := below_alloc (Below.refl wr.heap.size wr) (.cells #[.int .u8 y.c.f0, .string y.c.f1, .string y.c.f2, .string y.c.f3, .int .u8 y.c.f4.f0, .string y.c.f4.f1, .string y.c.f4.f2, .int .i64 y.c.f4.f3, .slice y.A8 y.c.f4.f4.length y.c8, .int .i64 y.c.f5, .slice y.A10 y.c.f6.length y.c10, .slice y.A11 y.c.f7.length y.c11] 29)
        have BY := Aside0.mk by1
        have CY := Aside0.mk (hC.below by1)
        have KY := Aside0.mk (blk_new wr (.cells #[.int .u8 y.c.f0, .string y.c.f1, .string y.c.f2, .string y.c.f3, .int .u8 y.c.f4.f0, .string y.c.f4.f1, .string y.c.f4.f2, .int .i64 y.c.f4.f3, .slice y.A8 y.c.f4.f4.length y.c8, .int .i64 y.c.f5, .slice y.A10 y.c.f6.length y.c10, .slice y.A11 y.c.f7.length y.c11] 29))
        have RY := Aside0.mk (hR.trans (OutR.of_below (g := g) (v := v3) by1))
        obtain ⟨yg, yv⟩ := h_fresh hC.O
        have YG := Aside0.mk yg
        have YV := Aside0.mk yv
        have y3 := CY.out.box
        clear ha hb hrest hpr hon hyc by1 yg yv hC hR
        go_wp2_with fail
        clear p0 p1 p2 p3 p4 p5 p6 p7 p8 p9 p10 p11 y3
        have y3 := CY.out.box
        generalize wr.alloc (.cells #[.int .u8 y.c.f0, .string y.c.f1, .string y.c.f2, .string y.c.f3, .int .u8 y.c.f4.f0, .string y.c.f4.f1, .string y.c.f4.f2, .int .i64 y.c.f4.f3, .slice y.A8 y.c.f4.f4.length y.c8, .int .i64 y.c.f5, .slice y.A10 y.c.f6.length y.c10, .slice y.A11 y.c.f7.length y.c11] 29) = W1 at CY KY RY y3 ⊢
        generalize wr.heap.size = gy at KY YG YV ⊢
        rw [@run_makeMap Tryd.prog]
        simp only [Result.andThen]
        rw [Oper.upon_value]
        go_wp2_with (first
          | ((with_reducible refine h_arm_put W1 (n := 0) (D := (.map [])) (k := true) (BMap.made _) (below_alloc (Below.refl _ _) _) (Nat.le_refl _) (by decide) (by decide) ?_); intro wa ma ga; have MA := Aside0.mk ma; have GA := Aside0.mk ga; clear ma ga)
          | ((with_reducible refine h_arm_put W1 (n := 1) (D := (DataW.put (.map []) (.bool true) (.lit (.string (⟨#[32]⟩ : ByteArray).data.toList)))) (k := false) MA.out GA.out (Nat.le_refl _) (by decide) (by decide) ?_); intro wb mc gb; have MB : Aside0 (BMap wb W1.heap.size 2 elsD) := Aside0.mk mc; have GB := Aside0.mk gb; have CB := Aside0.mk (CY.out.below GB.out); have lk := BMap.look MB.out bk (elsOf bk) (elsD_on bk); clear mc gb y3; obtain ⟨y3, x0, x1, x2, x3, x4, x5, x6, x7, x8, x9, x10, x11⟩ := CB.out.cells; rw [HK.out] at x0))
        clear lk y3 x0 x1 x2 x3 x4 x5 x6 x7 x8 x9 x10 x11
        refine (h_put_at w0.heap.size g mb v3 _ [(elsOf bk)] _ 1 _ _ (by simp) CB.out.O rfl rfl (by have := HL.out; have e1 := HPR.out; have e2 := HRE.out; rw [← HON.out] at e2; rw [← e1, ← e2] at this; simp at this ⊢; omega) (by simp)).mono ?_
        rintro e w7 ⟨rfl, v7, h7, r7⟩
        have KB := Aside0.mk (blk_below KY.out GB.out)
        have C7 := Aside0.mk (CB.out.step h7 r7 HW.out)
        have K7 := Aside0.mk (r7.blk KB.out YG.out YV.out)
        have R7 := Aside0.mk ((RY.out.trans (OutR.of_below (g := g) (v := v3) GB.out)).trans r7)
        clear h7 r7 hbk c5b
        have y3 := C7.out.box
        obtain ⟨z0, z1, z2, z3, z4, z5, z6, z7, z8, z9, z10, z11⟩ := h_box12 K7.out
        go_wp2_with fail
        clear y3 z0 z1 z2 z3 z4 z5 z6 z7 z8 z9 z10 z11
        have bc := below_alloc (Below.refl w7.heap.size w7) (.cells #[.int .u8 y.c.f0, .string y.c.f1, .string y.c.f2, .string y.c.f3, .int .u8 y.c.f4.f0, .string y.c.f4.f1, .string y.c.f4.f2, .int .i64 y.c.f4.f3, .slice y.A8 y.c.f4.f4.length y.c8, .int .i64 y.c.f5, .slice y.A10 y.c.f6.length y.c10, .slice y.A11 y.c.f7.length y.c11] 29)
        have hs1 := h_subs_one y C7.out.O
        unfold Nd.cells at hs1
        refine (h_braces k1 (fun m hm => IH.out m (by have := HQ.out; omega)) w0 _ ⟨#[]⟩ _ [y] _ _ rfl d a g mb v7 om _ hd0 hd1 (C7.out.below bc).B (C7.out.below bc).O (C7.out.below bc).M HW.out hs1 HA2.out (by have := HL.out; have e1 := HPR.out; have e2 := HRE.out; rw [← HON.out] at e2; rw [← e1, ← e2] at this; simp at this ⊢; omega)).mono ?_
        rintro e w8 ⟨rfl, v8, h8, r8⟩
        have C8 := Aside0.mk ((C7.out.below bc).step h8 r8 HW.out)
        have R8 := Aside0.mk (R7.out.trans ((OutR.of_below (g := g) (v := v7) bc).trans r8))
        clear h8 r8 bc hs1
        rw [← e5]
        clear e5
        go_wp2_with fail
        go_roundg k1
        case measure => have := HQ.out; omega
        case rel =>
          refine ⟨i + 1, by go_num, ⟨by omega⟩, ⟨pre ++ (toL (elsOf bk) ++ ([123] ++ (a ++ (lineOf d ++ [125])))), b, v8, HB.out, ?_, by simpa using C8.out, R8.out⟩, ⟨by have := HQ.out; omega⟩⟩
          have e1 := HPR.out
          have e2 := HRE.out
          rw [← HON.out] at e2
          rw [← e1, ← e2]
          simp
      · rw [if_neg c5] at hl
        obtain rfl := Option.some.inj hl
        have c5b : decide (i < (x.c.f7.length : Int)) = false := decide_eq_false c5
        have C7 := Aside0.mk hC
        have R7 := Aside0.mk hR
        have HPR := Aside0.mk hpr
        clear hl hpr hC hR HA
        go_wp2_with fail
        go_end0
        refine ⟨rfl, v3, ?_, R7.out⟩
        have := C7.out.O
        rw [← HPR.out]
        simpa using this
set_option maxHeartbeats 16000000 in
set_option maxRecDepth 100000 in
theorem h_ctr_8 (k : Nat) (ih : ∀ m, m < k → CtrSaid m) (w0 w : World) (x : Nd0 w0) (hk : x.c.f0 = 8) (d : Int) (g mb : Nat) (v : Value) (om : Obj) (l : List UInt8) (n3 : ByteArray) (hn3 : printer_name.f k x.c.f3 = some n3) (n1 : ByteArray) (hn1 : printer_name.f k x.c.f1 = some n1) (td : List UInt8) (htd : datL k x.c.f6 0 = some td) (r : List UInt8) (hr : subL k x.c.f7 d 0 = some r)
    (hd0 : 0 ≤ d) (hd1 : d ≤ 900) (hB : Below w0.heap.size w0 w) (h : OutAt w0.heap.size w g v mb l) (hm : w.heap[mb]? = some om) (hw : WordsOK mb om) (hlen : l.length + (([99, 97, 108, 108, 32] ++ (toL n3 ++ ([32, 98, 121, 32] ++ toL n1))) ++ (td ++ r)).length + 4000 ≤ 140737488355328) :
    Calls Tryd.prog 20 #[.pointer (some ⟨g, 0, none⟩), .agg x.cells, .int .i64 d] w fun e w' => e = .returned (.tuple #[]) ∧ ∃ v', OutAt w0.heap.size w' g v' mb (l ++ (([99, 97, 108, 108, 32] ++ (toL n3 ++ ([32, 98, 121, 32] ++ toL n1))) ++ (td ++ r))) ∧ OutR g w v w' v' := by
  have c0 := CtrAt.start x h hm hB
  have r0 : OutR g w v ((w.alloc (.cells #[.pointer (some ⟨g, 0, none⟩)] 47)).alloc (.cells x.cells 29)) v := OutR.of_below (below_step (below_alloc (Below.refl _ _) _) (below_alloc (Below.refl _ _) _))
  have HW := Aside0.mk hw
  have HL := Aside0.mk hlen
  have IH := Aside0.mk ih
  have Hn3 := Aside0.mk hn3
  have Hn1 := Aside0.mk hn1
  have Htd := Aside0.mk htd
  have Hr := Aside0.mk hr
  have hr8 := Aside0.mk x.r8
  have hlm : x.c.f7.length ≤ 9223372036854775807 := Kd.C_len_le x.r11
  unfold Nd.cells at c0 r0 ⊢
  rw [hk] at c0 r0 ⊢
  have C0 := Aside0.mk c0
  have R0 := Aside0.mk r0
  have HK := Aside0.mk hk
  obtain ⟨y3, x0, x1, x2, x3, x4, x5, x6, x7, x8, x9, x10, x11⟩ := C0.out.cells
  rw [hk] at x0
  clear c0 r0 hk h hm hB hw hlen ih hn3 hn1 htd hr
  go_enter Tryd.func20, Tryd.ntmps20
  go_wp2_with fail
  have D0 := Aside0.mk (C0.out.below (below_drew1 (Below.refl _ _)))
  have Q0 := Aside0.mk (R0.out.trans (OutR.of_below (g := g) (v := v) (below_drew1 (Below.refl _ _))))
  clear y3 x0 x1 x2 x3 x4 x5 x6 x7 x8 x9 x10 x11
  go_region_held3 (fun w' => w'.cell? ⟨w.heap.size, 0, none⟩ = some (.pointer (some ⟨g, 0, none⟩)) ∧ w'.cell? ⟨w.heap.size + 1, 1, none⟩ = some (.string x.c.f1) ∧ w'.cell? ⟨w.heap.size + 1, 2, none⟩ = some (.string x.c.f2) ∧ w'.cell? ⟨w.heap.size + 1, 3, none⟩ = some (.string x.c.f3) ∧ w'.cell? ⟨w.heap.size + 1, 9, none⟩ = some (.int .i64 x.c.f5))
    (with_reducible (first
      | exact CtrAt.five (Aside0.out (by assumption))
      | exact CtrAt.five (CtrAt.below (Aside0.out (by assumption)) (below_alloc (Below.refl _ _) _))))
    (first
      | (go_at_call 25; (with_reducible refine (printer_name.calls k _ _ _ Hn3.out).mono ?_); rintro e wq ⟨rfl, hb⟩; have CN := Aside0.mk (CtrAt.below (by with_reducible exact Aside0.out (by assumption)) hb); have QN := Aside0.mk (OutR.trans (g := g) (v := v) (v1 := v) (by with_reducible exact Aside0.out (by assumption)) (OutR.of_below hb)); clear hb)
      | (go_at_call 25; (with_reducible refine (printer_name.calls k _ _ _ Hn1.out).mono ?_); rintro e wq ⟨rfl, hb⟩; have CN := Aside0.mk (CtrAt.below (by with_reducible exact Aside0.out (by assumption)) hb); have QN := Aside0.mk (OutR.trans (g := g) (v := v) (v1 := v) (by with_reducible exact Aside0.out (by assumption)) (OutR.of_below hb)); clear hb)
      | (go_at_call 32; refine (h_put_at w0.heap.size g mb v _ [⟨#[99, 97, 108, 108, 32]⟩, n3, ⟨#[32, 98, 121, 32]⟩, n1] _ 4 _ _ (by simp) (CtrAt.O (by with_reducible exact Aside0.out (p := CtrAt w0 _ x _ _ g mb v om _) (by assumption))) rfl rfl (by have := HL.out; simp at this ⊢; omega) (by simp)).mono ?_; rintro e w1 ⟨rfl, v1, h1, r1⟩; have C1 := Aside0.mk (CtrAt.step (by with_reducible exact Aside0.out (p := CtrAt w0 _ x _ _ g mb v om _) (by assumption)) h1 r1 HW.out); have R1 := Aside0.mk (OutR.trans (g := g) (v := v) (v1 := v) (by with_reducible exact Aside0.out (by assumption)) r1); clear h1 r1))
  obtain ⟨y3, x0, x1, x2, x3, x4, x5, x6, x7, x8, x9, x10, x11⟩ := C1.out.cells
  rw [HK.out] at x0
  go_wp2_with fail
  refine (h_dates k w0 _ x _ _ td g mb v1 _ C1.out.B C1.out.O C1.out.K3 C1.out.K4 C1.out.n3 C1.out.o3 Htd.out (by have := HL.out; simp at this ⊢; omega)).mono ?_
  rintro e w2 ⟨rfl, v2, h2, r2⟩
  have C2 := Aside0.mk (C1.out.step h2 r2 HW.out)
  have R2 := Aside0.mk (R1.out.trans r2)
  clear h2 r2 y3 x0 x1 x2 x3 x4 x5 x6 x7 x8 x9 x10 x11
  obtain ⟨y3, x0, x1, x2, x3, x4, x5, x6, x7, x8, x9, x10, x11⟩ := C2.out.cells
  rw [HK.out] at x0
  have CL : Aside0 (CtrAt w0 w2 x w.heap.size (w.heap.size + 1) g mb v2 om (l ++ (([99, 97, 108, 108, 32] ++ (toL n3 ++ ([32, 98, 121, 32] ++ toL n1))) ++ td))) := ⟨by simpa using C2.out⟩
  go_wp2_with fail
  clear y3 x0 x1 x2 x3 x4 x5 x6 x7 x8 x9 x10 x11
  go_loopg [119] k (fun kq v119 w' => ∃ i : Int, v119 = .int .i64 i ∧ Aside0 (0 ≤ i) ∧ Aside0 (SubSt kq x i d r w0 w w' w.heap.size (w.heap.size + 1) g mb v om (l ++ (([99, 97, 108, 108, 32] ++ (toL n3 ++ ([32, 98, 121, 32] ++ toL n1))) ++ td))) ∧ Aside0 (kq ≤ k))
  case atStart => exact ⟨0, rfl, ⟨Int.le_refl _⟩, ⟨[], r, _, Hr.out, rfl, by simpa using CL.out, R2.out⟩, ⟨Nat.le_refl _⟩⟩
  case round =>
    clear Hr
    obtain ⟨i, rfl, HI, HA, HQ⟩ := hrel
    obtain ⟨pre, rest, v3, hl, hpr, hC, hR⟩ := HA.out
    cases gk with
    | zero => exact absurd hl (by simp [subL])
    | succ k1 =>
      simp only [subL] at hl
      by_cases c5 : i < (x.c.f7.length : Int)
      · rw [if_pos c5] at hl
        obtain ⟨a, ha, hl2⟩ := Option.bind_eq_some_iff.mp hl
        obtain ⟨b, hb, hl3⟩ := Option.bind_eq_some_iff.mp hl2
        have hrest := Option.some.inj hl3
        clear hl hl2 hl3 HA
        have i0 : 0 ≤ i := HI.out
        obtain ⟨y, ad, e5, hyc, p0, p1, p2, p3, p4, p5, p6, p7, p8, p9, p10, p11⟩ := x.sub i i0 c5
        rw [← hyc] at ha
        rw [e5]
        replace p0 := pw_cell_below hC.B p0
        replace p1 := pw_cell_below hC.B p1
        replace p2 := pw_cell_below hC.B p2
        replace p3 := pw_cell_below hC.B p3
        replace p4 := pw_cell_below hC.B p4
        replace p5 := pw_cell_below hC.B p5
        replace p6 := pw_cell_below hC.B p6
        replace p7 := pw_cell_below hC.B p7
        replace p8 := pw_cell_below hC.B p8
        replace p9 := pw_cell_below hC.B p9
        replace p10 := pw_cell_below hC.B p10
        replace p11 := pw_cell_below hC.B p11
        obtain ⟨bk, hbk⟩ : ∃ bk : Bool, (i == 0) = bk := ⟨_, rfl⟩
        have hon : toL (elsOf bk) = (if i = 0 then [32] else [32, 101, 108, 115, 101, 32]) := by
          subst hbk; by_cases e : i = 0 <;> simp [elsOf, e]
        have HON := Aside0.mk hon
        have HA2 := Aside0.mk ha
        have HB := Aside0.mk hb
        have HRE := Aside0.mk hrest
        have HPR := Aside0.mk hpr
        have c5b : decide (i < (x.c.f7.length : Int)) = true := decide_eq_true c5
        have by1 := below_alloc (Below.refl wr.heap.size wr) (.cells #[.int .u8 y.c.f0, .string y.c.f1, .string y.c.f2, .string y.c.f3, .int .u8 y.c.f4.f0, .string y.c.f4.f1, .string y.c.f4.f2, .int .i64 y.c.f4.f3, .slice y.A8 y.c.f4.f4.length y.c8, .int .i64 y.c.f5, .slice y.A10 y.c.f6.length y.c10, .slice y.A11 y.c.f7.length y.c11] 29)
        have BY := Aside0.mk by1
        have CY := Aside0.mk (hC.below by1)
        have KY := Aside0.mk (blk_new wr (.cells #[.int .u8 y.c.f0, .string y.c.f1, .string y.c.f2, .string y.c.f3, .int .u8 y.c.f4.f0, .string y.c.f4.f1, .string y.c.f4.f2, .int .i64 y.c.f4.f3, .slice y.A8 y.c.f4.f4.length y.c8, .int .i64 y.c.f5, .slice y.A10 y.c.f6.length y.c10, .slice y.A11 y.c.f7.length y.c11] 29))
        have RY := Aside0.mk (hR.trans (OutR.of_below (g := g) (v := v3) by1))
        obtain ⟨yg, yv⟩ := h_fresh hC.O
        have YG := Aside0.mk yg
        have YV := Aside0.mk yv
        have y3 := CY.out.box
        clear ha hb hrest hpr hon hyc by1 yg yv hC hR
        go_wp2_with fail
        clear p0 p1 p2 p3 p4 p5 p6 p7 p8 p9 p10 p11 y3
        have y3 := CY.out.box
        generalize wr.alloc (.cells #[.int .u8 y.c.f0, .string y.c.f1, .string y.c.f2, .string y.c.f3, .int .u8 y.c.f4.f0, .string y.c.f4.f1, .string y.c.f4.f2, .int .i64 y.c.f4.f3, .slice y.A8 y.c.f4.f4.length y.c8, .int .i64 y.c.f5, .slice y.A10 y.c.f6.length y.c10, .slice y.A11 y.c.f7.length y.c11] 29) = W1 at CY KY RY y3 ⊢
        generalize wr.heap.size = gy at KY YG YV ⊢
        rw [@run_makeMap Tryd.prog]
        simp only [Result.andThen]
        rw [Oper.upon_value]
        go_wp2_with (first
          | ((with_reducible refine h_arm_put W1 (n := 0) (D := (.map [])) (k := true) (BMap.made _) (below_alloc (Below.refl _ _) _) (Nat.le_refl _) (by decide) (by decide) ?_); intro wa ma ga; have MA := Aside0.mk ma; have GA := Aside0.mk ga; clear ma ga)
          | ((with_reducible refine h_arm_put W1 (n := 1) (D := (DataW.put (.map []) (.bool true) (.lit (.string (⟨#[32]⟩ : ByteArray).data.toList)))) (k := false) MA.out GA.out (Nat.le_refl _) (by decide) (by decide) ?_); intro wb mc gb; have MB : Aside0 (BMap wb W1.heap.size 2 elsD) := Aside0.mk mc; have GB := Aside0.mk gb; have CB := Aside0.mk (CY.out.below GB.out); have lk := BMap.look MB.out bk (elsOf bk) (elsD_on bk); clear mc gb y3; obtain ⟨y3, x0, x1, x2, x3, x4, x5, x6, x7, x8, x9, x10, x11⟩ := CB.out.cells; rw [HK.out] at x0))
        clear lk y3 x0 x1 x2 x3 x4 x5 x6 x7 x8 x9 x10 x11
        refine (h_put_at w0.heap.size g mb v3 _ [(elsOf bk)] _ 1 _ _ (by simp) CB.out.O rfl rfl (by have := HL.out; have e1 := HPR.out; have e2 := HRE.out; rw [← HON.out] at e2; rw [← e1, ← e2] at this; simp at this ⊢; omega) (by simp)).mono ?_
        rintro e w7 ⟨rfl, v7, h7, r7⟩
        have KB := Aside0.mk (blk_below KY.out GB.out)
        have C7 := Aside0.mk (CB.out.step h7 r7 HW.out)
        have K7 := Aside0.mk (r7.blk KB.out YG.out YV.out)
        have R7 := Aside0.mk ((RY.out.trans (OutR.of_below (g := g) (v := v3) GB.out)).trans r7)
        clear h7 r7 hbk c5b
        have y3 := C7.out.box
        obtain ⟨z0, z1, z2, z3, z4, z5, z6, z7, z8, z9, z10, z11⟩ := h_box12 K7.out
        go_wp2_with fail
        clear y3 z0 z1 z2 z3 z4 z5 z6 z7 z8 z9 z10 z11
        have bc := below_alloc (Below.refl w7.heap.size w7) (.cells #[.int .u8 y.c.f0, .string y.c.f1, .string y.c.f2, .string y.c.f3, .int .u8 y.c.f4.f0, .string y.c.f4.f1, .string y.c.f4.f2, .int .i64 y.c.f4.f3, .slice y.A8 y.c.f4.f4.length y.c8, .int .i64 y.c.f5, .slice y.A10 y.c.f6.length y.c10, .slice y.A11 y.c.f7.length y.c11] 29)
        have hs1 := h_subs_one y C7.out.O
        unfold Nd.cells at hs1
        refine (h_braces k1 (fun m hm => IH.out m (by have := HQ.out; omega)) w0 _ ⟨#[]⟩ _ [y] _ _ rfl d a g mb v7 om _ hd0 hd1 (C7.out.below bc).B (C7.out.below bc).O (C7.out.below bc).M HW.out hs1 HA2.out (by have := HL.out; have e1 := HPR.out; have e2 := HRE.out; rw [← HON.out] at e2; rw [← e1, ← e2] at this; simp at this ⊢; omega)).mono ?_
        rintro e w8 ⟨rfl, v8, h8, r8⟩
        have C8 := Aside0.mk ((C7.out.below bc).step h8 r8 HW.out)
        have R8 := Aside0.mk (R7.out.trans ((OutR.of_below (g := g) (v := v7) bc).trans r8))
        clear h8 r8 bc hs1
        rw [← e5]
        clear e5
        go_wp2_with fail
        go_roundg k1
        case measure => have := HQ.out; omega
        case rel =>
          refine ⟨i + 1, by go_num, ⟨by omega⟩, ⟨pre ++ (toL (elsOf bk) ++ ([123] ++ (a ++ (lineOf d ++ [125])))), b, v8, HB.out, ?_, by simpa using C8.out, R8.out⟩, ⟨by have := HQ.out; omega⟩⟩
          have e1 := HPR.out
          have e2 := HRE.out
          rw [← HON.out] at e2
          rw [← e1, ← e2]
          simp
      · rw [if_neg c5] at hl
        obtain rfl := Option.some.inj hl
        have c5b : decide (i < (x.c.f7.length : Int)) = false := decide_eq_false c5
        have C7 := Aside0.mk hC
        have R7 := Aside0.mk hR
        have HPR := Aside0.mk hpr
        clear hl hpr hC hR HA
        go_wp2_with fail
        go_end0
        refine ⟨rfl, v3, ?_, R7.out⟩
        have := C7.out.O
        rw [← HPR.out]
        simpa using this
set_option maxHeartbeats 16000000 in
set_option maxRecDepth 100000 in
theorem h_ctr_9 (k : Nat) (ih : ∀ m, m < k → CtrSaid m) (w0 w : World) (x : Nd0 w0) (hk : x.c.f0 = 9) (d : Int) (g mb : Nat) (v : Value) (om : Obj) (l : List UInt8) (te : List UInt8) (hte : printer_expr.f k x.c.f4.f0 x.c.f4.f1 x.c.f4.f2 x.c.f4.f3 x.c.f4.f4 0 = some te) (td : List UInt8) (htd : datL k x.c.f6 0 = some td) (r : List UInt8) (hr : subL k x.c.f7 d 0 = some r)
    (hd0 : 0 ≤ d) (hd1 : d ≤ 900) (hB : Below w0.heap.size w0 w) (h : OutAt w0.heap.size w g v mb l) (hm : w.heap[mb]? = some om) (hw : WordsOK mb om) (hlen : l.length + ([117, 110, 116, 105, 108, 32] ++ (te ++ (td ++ r))).length + 4000 ≤ 140737488355328) :
    Calls Tryd.prog 20 #[.pointer (some ⟨g, 0, none⟩), .agg x.cells, .int .i64 d] w fun e w' => e = .returned (.tuple #[]) ∧ ∃ v', OutAt w0.heap.size w' g v' mb (l ++ ([117, 110, 116, 105, 108, 32] ++ (te ++ (td ++ r)))) ∧ OutR g w v w' v' := by
  have c0 := CtrAt.start x h hm hB
  have r0 : OutR g w v ((w.alloc (.cells #[.pointer (some ⟨g, 0, none⟩)] 47)).alloc (.cells x.cells 29)) v := OutR.of_below (below_step (below_alloc (Below.refl _ _) _) (below_alloc (Below.refl _ _) _))
  have HW := Aside0.mk hw
  have HL := Aside0.mk hlen
  have IH := Aside0.mk ih
  have Hte := Aside0.mk hte
  have Htd := Aside0.mk htd
  have Hr := Aside0.mk hr
  have hr8 := Aside0.mk x.r8
  have hlm : x.c.f7.length ≤ 9223372036854775807 := Kd.C_len_le x.r11
  unfold Nd.cells at c0 r0 ⊢
  rw [hk] at c0 r0 ⊢
  have C0 := Aside0.mk c0
  have R0 := Aside0.mk r0
  have HK := Aside0.mk hk
  obtain ⟨y3, x0, x1, x2, x3, x4, x5, x6, x7, x8, x9, x10, x11⟩ := C0.out.cells
  rw [hk] at x0
  clear c0 r0 hk h hm hB hw hlen ih hte htd hr
  go_enter Tryd.func20, Tryd.ntmps20
  go_wp2_with fail
  generalize (w.alloc (.cells #[.pointer (some ⟨g, 0, none⟩)] 47)).alloc (.cells #[.int .u8 9, .string x.c.f1, .string x.c.f2, .string x.c.f3, .int .u8 x.c.f4.f0, .string x.c.f4.f1, .string x.c.f4.f2, .int .i64 x.c.f4.f3, .slice x.A8 x.c.f4.f4.length x.c8, .int .i64 x.c.f5, .slice x.A10 x.c.f6.length x.c10, .slice x.A11 x.c.f7.length x.c11] 29) = W2 at C0 R0 y3 x0 x1 x2 x3 x4 x5 x6 x7 x8 x9 x10 x11 ⊢
  rw [@run_makeMap Tryd.prog]
  simp only [Result.andThen]
  rw [Oper.upon_value]
  go_wp2_with (first
    | ((with_reducible refine h_arm_put W2 (n := 0) (D := (.map [])) (k := true) (BMap.made _) (below_alloc (Below.refl _ _) _) (Nat.le_refl _) (by decide) (by decide) ?_); intro wa ma ga; have MA := Aside0.mk ma; have GA := Aside0.mk ga; clear ma ga)
    | ((with_reducible refine h_arm_put W2 (n := 1) (D := (DataW.put (.map []) (.bool true) (.lit (.string (⟨#[117, 110, 116, 105, 108, 32]⟩ : ByteArray).data.toList)))) (k := false) MA.out GA.out (Nat.le_refl _) (by decide) (by decide) ?_); intro wb mc gb; have MB : Aside0 (BMap wb W2.heap.size 2 untD) := Aside0.mk mc; have GB := Aside0.mk gb; have CB := Aside0.mk (C0.out.below GB.out); have lk := BMap.look MB.out true ⟨#[117, 110, 116, 105, 108, 32]⟩ untD_true; clear mc gb y3 x0 x1 x2 x3 x4 x5 x6 x7 x8 x9 x10 x11; obtain ⟨y3, x0, x1, x2, x3, x4, x5, x6, x7, x8, x9, x10, x11⟩ := CB.out.cells; rw [HK.out] at x0))
  clear lk y3 x0 x1 x2 x3 x4 x5 x6 x7 x8 x9 x10 x11
  refine (h_put_at w0.heap.size g mb v _ [⟨#[117, 110, 116, 105, 108, 32]⟩] _ 1 _ _ (by simp) CB.out.O rfl rfl (by have := HL.out; simp at this ⊢; omega) (by simp)).mono ?_
  rintro e w1 ⟨rfl, v1, h1, r1⟩
  have C1 := Aside0.mk (CB.out.step h1 r1 HW.out)
  have R1 := Aside0.mk (R0.out.trans ((OutR.of_below GB.out).trans r1))
  clear h1 r1
  obtain ⟨y3, x0, x1, x2, x3, x4, x5, x6, x7, x8, x9, x10, x11⟩ := C1.out.cells
  rw [HK.out] at x0
  go_wp2_with fail
  refine (h_expr_all k _ _ _ _ _ _ _ _ te w0 _ g mb v1 om _ C1.out.B C1.out.O C1.out.M HW.out hr8.out x.h8 Hte.out (by have := HL.out; simp at this ⊢; omega)).mono ?_
  rintro e w2 ⟨rfl, v2, h2, r2⟩
  have C2 := Aside0.mk (C1.out.step h2 r2 HW.out)
  have R2 := Aside0.mk (R1.out.trans r2)
  clear h2 r2 y3 x0 x1 x2 x3 x4 x5 x6 x7 x8 x9 x10 x11
  obtain ⟨y3, x0, x1, x2, x3, x4, x5, x6, x7, x8, x9, x10, x11⟩ := C2.out.cells
  rw [HK.out] at x0
  go_wp2_with fail
  refine (h_dates k w0 _ x _ _ td g mb v2 _ C2.out.B C2.out.O C2.out.K3 C2.out.K4 C2.out.n3 C2.out.o3 Htd.out (by have := HL.out; simp at this ⊢; omega)).mono ?_
  rintro e w3 ⟨rfl, v3, h3, r3⟩
  have C3 := Aside0.mk (C2.out.step h3 r3 HW.out)
  have R3 := Aside0.mk (R2.out.trans r3)
  clear h3 r3 y3 x0 x1 x2 x3 x4 x5 x6 x7 x8 x9 x10 x11
  obtain ⟨y3, x0, x1, x2, x3, x4, x5, x6, x7, x8, x9, x10, x11⟩ := C3.out.cells
  rw [HK.out] at x0
  have CL : Aside0 (CtrAt w0 w3 x w.heap.size (w.heap.size + 1) g mb v3 om (l ++ ([117, 110, 116, 105, 108, 32] ++ (te ++ td)))) := ⟨by simpa using C3.out⟩
  go_wp2_with fail
  clear y3 x0 x1 x2 x3 x4 x5 x6 x7 x8 x9 x10 x11
  go_loopg [119] k (fun kq v119 w' => ∃ i : Int, v119 = .int .i64 i ∧ Aside0 (0 ≤ i) ∧ Aside0 (SubSt kq x i d r w0 w w' w.heap.size (w.heap.size + 1) g mb v om (l ++ ([117, 110, 116, 105, 108, 32] ++ (te ++ td)))) ∧ Aside0 (kq ≤ k))
  case atStart => exact ⟨0, rfl, ⟨Int.le_refl _⟩, ⟨[], r, _, Hr.out, rfl, by simpa using CL.out, R3.out⟩, ⟨Nat.le_refl _⟩⟩
  case round =>
    clear Hr
    obtain ⟨i, rfl, HI, HA, HQ⟩ := hrel
    obtain ⟨pre, rest, v3, hl, hpr, hC, hR⟩ := HA.out
    cases gk with
    | zero => exact absurd hl (by simp [subL])
    | succ k1 =>
      simp only [subL] at hl
      by_cases c5 : i < (x.c.f7.length : Int)
      · rw [if_pos c5] at hl
        obtain ⟨a, ha, hl2⟩ := Option.bind_eq_some_iff.mp hl
        obtain ⟨b, hb, hl3⟩ := Option.bind_eq_some_iff.mp hl2
        have hrest := Option.some.inj hl3
        clear hl hl2 hl3 HA
        have i0 : 0 ≤ i := HI.out
        obtain ⟨y, ad, e5, hyc, p0, p1, p2, p3, p4, p5, p6, p7, p8, p9, p10, p11⟩ := x.sub i i0 c5
        rw [← hyc] at ha
        rw [e5]
        replace p0 := pw_cell_below hC.B p0
        replace p1 := pw_cell_below hC.B p1
        replace p2 := pw_cell_below hC.B p2
        replace p3 := pw_cell_below hC.B p3
        replace p4 := pw_cell_below hC.B p4
        replace p5 := pw_cell_below hC.B p5
        replace p6 := pw_cell_below hC.B p6
        replace p7 := pw_cell_below hC.B p7
        replace p8 := pw_cell_below hC.B p8
        replace p9 := pw_cell_below hC.B p9
        replace p10 := pw_cell_below hC.B p10
        replace p11 := pw_cell_below hC.B p11
        obtain ⟨bk, hbk⟩ : ∃ bk : Bool, (i == 0) = bk := ⟨_, rfl⟩
        have hon : toL (elsOf bk) = (if i = 0 then [32] else [32, 101, 108, 115, 101, 32]) := by
          subst hbk; by_cases e : i = 0 <;> simp [elsOf, e]
        have HON := Aside0.mk hon
        have HA2 := Aside0.mk ha
        have HB := Aside0.mk hb
        have HRE := Aside0.mk hrest
        have HPR := Aside0.mk hpr
        have c5b : decide (i < (x.c.f7.length : Int)) = true := decide_eq_true c5
        have by1 := below_alloc (Below.refl wr.heap.size wr) (.cells #[.int .u8 y.c.f0, .string y.c.f1, .string y.c.f2, .string y.c.f3, .int .u8 y.c.f4.f0, .string y.c.f4.f1, .string y.c.f4.f2, .int .i64 y.c.f4.f3, .slice y.A8 y.c.f4.f4.length y.c8, .int .i64 y.c.f5, .slice y.A10 y.c.f6.length y.c10, .slice y.A11 y.c.f7.length y.c11] 29)
        have BY := Aside0.mk by1
        have CY := Aside0.mk (hC.below by1)
        have KY := Aside0.mk (blk_new wr (.cells #[.int .u8 y.c.f0, .string y.c.f1, .string y.c.f2, .string y.c.f3, .int .u8 y.c.f4.f0, .string y.c.f4.f1, .string y.c.f4.f2, .int .i64 y.c.f4.f3, .slice y.A8 y.c.f4.f4.length y.c8, .int .i64 y.c.f5, .slice y.A10 y.c.f6.length y.c10, .slice y.A11 y.c.f7.length y.c11] 29))
        have RY := Aside0.mk (hR.trans (OutR.of_below (g := g) (v := v3) by1))
        obtain ⟨yg, yv⟩ := h_fresh hC.O
        have YG := Aside0.mk yg
        have YV := Aside0.mk yv
        have y3 := CY.out.box
        clear ha hb hrest hpr hon hyc by1 yg yv hC hR
        go_wp2_with fail
        clear p0 p1 p2 p3 p4 p5 p6 p7 p8 p9 p10 p11 y3
        have y3 := CY.out.box
        generalize wr.alloc (.cells #[.int .u8 y.c.f0, .string y.c.f1, .string y.c.f2, .string y.c.f3, .int .u8 y.c.f4.f0, .string y.c.f4.f1, .string y.c.f4.f2, .int .i64 y.c.f4.f3, .slice y.A8 y.c.f4.f4.length y.c8, .int .i64 y.c.f5, .slice y.A10 y.c.f6.length y.c10, .slice y.A11 y.c.f7.length y.c11] 29) = W1 at CY KY RY y3 ⊢
        generalize wr.heap.size = gy at KY YG YV ⊢
        rw [@run_makeMap Tryd.prog]
        simp only [Result.andThen]
        rw [Oper.upon_value]
        go_wp2_with (first
          | ((with_reducible refine h_arm_put W1 (n := 0) (D := (.map [])) (k := true) (BMap.made _) (below_alloc (Below.refl _ _) _) (Nat.le_refl _) (by decide) (by decide) ?_); intro wa ma ga; have MA := Aside0.mk ma; have GA := Aside0.mk ga; clear ma ga)
          | ((with_reducible refine h_arm_put W1 (n := 1) (D := (DataW.put (.map []) (.bool true) (.lit (.string (⟨#[32]⟩ : ByteArray).data.toList)))) (k := false) MA.out GA.out (Nat.le_refl _) (by decide) (by decide) ?_); intro wb mc gb; have MB : Aside0 (BMap wb W1.heap.size 2 elsD) := Aside0.mk mc; have GB := Aside0.mk gb; have CB := Aside0.mk (CY.out.below GB.out); have lk := BMap.look MB.out bk (elsOf bk) (elsD_on bk); clear mc gb y3; obtain ⟨y3, x0, x1, x2, x3, x4, x5, x6, x7, x8, x9, x10, x11⟩ := CB.out.cells; rw [HK.out] at x0))
        clear lk y3 x0 x1 x2 x3 x4 x5 x6 x7 x8 x9 x10 x11
        refine (h_put_at w0.heap.size g mb v3 _ [(elsOf bk)] _ 1 _ _ (by simp) CB.out.O rfl rfl (by have := HL.out; have e1 := HPR.out; have e2 := HRE.out; rw [← HON.out] at e2; rw [← e1, ← e2] at this; simp at this ⊢; omega) (by simp)).mono ?_
        rintro e w7 ⟨rfl, v7, h7, r7⟩
        have KB := Aside0.mk (blk_below KY.out GB.out)
        have C7 := Aside0.mk (CB.out.step h7 r7 HW.out)
        have K7 := Aside0.mk (r7.blk KB.out YG.out YV.out)
        have R7 := Aside0.mk ((RY.out.trans (OutR.of_below (g := g) (v := v3) GB.out)).trans r7)
        clear h7 r7 hbk c5b
        have y3 := C7.out.box
        obtain ⟨z0, z1, z2, z3, z4, z5, z6, z7, z8, z9, z10, z11⟩ := h_box12 K7.out
        go_wp2_with fail
        clear y3 z0 z1 z2 z3 z4 z5 z6 z7 z8 z9 z10 z11
        have bc := below_alloc (Below.refl w7.heap.size w7) (.cells #[.int .u8 y.c.f0, .string y.c.f1, .string y.c.f2, .string y.c.f3, .int .u8 y.c.f4.f0, .string y.c.f4.f1, .string y.c.f4.f2, .int .i64 y.c.f4.f3, .slice y.A8 y.c.f4.f4.length y.c8, .int .i64 y.c.f5, .slice y.A10 y.c.f6.length y.c10, .slice y.A11 y.c.f7.length y.c11] 29)
        have hs1 := h_subs_one y C7.out.O
        unfold Nd.cells at hs1
        refine (h_braces k1 (fun m hm => IH.out m (by have := HQ.out; omega)) w0 _ ⟨#[]⟩ _ [y] _ _ rfl d a g mb v7 om _ hd0 hd1 (C7.out.below bc).B (C7.out.below bc).O (C7.out.below bc).M HW.out hs1 HA2.out (by have := HL.out; have e1 := HPR.out; have e2 := HRE.out; rw [← HON.out] at e2; rw [← e1, ← e2] at this; simp at this ⊢; omega)).mono ?_
        rintro e w8 ⟨rfl, v8, h8, r8⟩
        have C8 := Aside0.mk ((C7.out.below bc).step h8 r8 HW.out)
        have R8 := Aside0.mk (R7.out.trans ((OutR.of_below (g := g) (v := v7) bc).trans r8))
        clear h8 r8 bc hs1
        rw [← e5]
        clear e5
        go_wp2_with fail
        go_roundg k1
        case measure => have := HQ.out; omega
        case rel =>
          refine ⟨i + 1, by go_num, ⟨by omega⟩, ⟨pre ++ (toL (elsOf bk) ++ ([123] ++ (a ++ (lineOf d ++ [125])))), b, v8, HB.out, ?_, by simpa using C8.out, R8.out⟩, ⟨by have := HQ.out; omega⟩⟩
          have e1 := HPR.out
          have e2 := HRE.out
          rw [← HON.out] at e2
          rw [← e1, ← e2]
          simp
      · rw [if_neg c5] at hl
        obtain rfl := Option.some.inj hl
        have c5b : decide (i < (x.c.f7.length : Int)) = false := decide_eq_false c5
        have C7 := Aside0.mk hC
        have R7 := Aside0.mk hR
        have HPR := Aside0.mk hpr
        clear hl hpr hC hR HA
        go_wp2_with fail
        go_end0
        refine ⟨rfl, v3, ?_, R7.out⟩
        have := C7.out.O
        rw [← HPR.out]
        simpa using this
set_option maxHeartbeats 16000000 in
set_option maxRecDepth 100000 in
theorem h_ctr_10 (k : Nat) (ih : ∀ m, m < k → CtrSaid m) (w0 w : World) (x : Nd0 w0) (hk : x.c.f0 = 10) (d : Int) (g mb : Nat) (v : Value) (om : Obj) (l : List UInt8) (te : List UInt8) (hte : printer_expr.f k x.c.f4.f0 x.c.f4.f1 x.c.f4.f2 x.c.f4.f3 x.c.f4.f4 0 = some te) (td : List UInt8) (htd : datL k x.c.f6 0 = some td) (r : List UInt8) (hr : subL k x.c.f7 d 0 = some r)
    (hd0 : 0 ≤ d) (hd1 : d ≤ 900) (hB : Below w0.heap.size w0 w) (h : OutAt w0.heap.size w g v mb l) (hm : w.heap[mb]? = some om) (hw : WordsOK mb om) (hlen : l.length + ([119, 104, 101, 110, 32] ++ (te ++ (td ++ r))).length + 4000 ≤ 140737488355328) :
    Calls Tryd.prog 20 #[.pointer (some ⟨g, 0, none⟩), .agg x.cells, .int .i64 d] w fun e w' => e = .returned (.tuple #[]) ∧ ∃ v', OutAt w0.heap.size w' g v' mb (l ++ ([119, 104, 101, 110, 32] ++ (te ++ (td ++ r)))) ∧ OutR g w v w' v' := by
  have c0 := CtrAt.start x h hm hB
  have r0 : OutR g w v ((w.alloc (.cells #[.pointer (some ⟨g, 0, none⟩)] 47)).alloc (.cells x.cells 29)) v := OutR.of_below (below_step (below_alloc (Below.refl _ _) _) (below_alloc (Below.refl _ _) _))
  have HW := Aside0.mk hw
  have HL := Aside0.mk hlen
  have IH := Aside0.mk ih
  have Hte := Aside0.mk hte
  have Htd := Aside0.mk htd
  have Hr := Aside0.mk hr
  have hr8 := Aside0.mk x.r8
  have hlm : x.c.f7.length ≤ 9223372036854775807 := Kd.C_len_le x.r11
  unfold Nd.cells at c0 r0 ⊢
  rw [hk] at c0 r0 ⊢
  have C0 := Aside0.mk c0
  have R0 := Aside0.mk r0
  have HK := Aside0.mk hk
  obtain ⟨y3, x0, x1, x2, x3, x4, x5, x6, x7, x8, x9, x10, x11⟩ := C0.out.cells
  rw [hk] at x0
  clear c0 r0 hk h hm hB hw hlen ih hte htd hr
  go_enter Tryd.func20, Tryd.ntmps20
  go_wp2_with fail
  generalize (w.alloc (.cells #[.pointer (some ⟨g, 0, none⟩)] 47)).alloc (.cells #[.int .u8 10, .string x.c.f1, .string x.c.f2, .string x.c.f3, .int .u8 x.c.f4.f0, .string x.c.f4.f1, .string x.c.f4.f2, .int .i64 x.c.f4.f3, .slice x.A8 x.c.f4.f4.length x.c8, .int .i64 x.c.f5, .slice x.A10 x.c.f6.length x.c10, .slice x.A11 x.c.f7.length x.c11] 29) = W2 at C0 R0 y3 x0 x1 x2 x3 x4 x5 x6 x7 x8 x9 x10 x11 ⊢
  rw [@run_makeMap Tryd.prog]
  simp only [Result.andThen]
  rw [Oper.upon_value]
  go_wp2_with (first
    | ((with_reducible refine h_arm_put W2 (n := 0) (D := (.map [])) (k := true) (BMap.made _) (below_alloc (Below.refl _ _) _) (Nat.le_refl _) (by decide) (by decide) ?_); intro wa ma ga; have MA := Aside0.mk ma; have GA := Aside0.mk ga; clear ma ga)
    | ((with_reducible refine h_arm_put W2 (n := 1) (D := (DataW.put (.map []) (.bool true) (.lit (.string (⟨#[117, 110, 116, 105, 108, 32]⟩ : ByteArray).data.toList)))) (k := false) MA.out GA.out (Nat.le_refl _) (by decide) (by decide) ?_); intro wb mc gb; have MB : Aside0 (BMap wb W2.heap.size 2 untD) := Aside0.mk mc; have GB := Aside0.mk gb; have CB := Aside0.mk (C0.out.below GB.out); have lk := BMap.look MB.out false ⟨#[119, 104, 101, 110, 32]⟩ untD_false; clear mc gb y3 x0 x1 x2 x3 x4 x5 x6 x7 x8 x9 x10 x11; obtain ⟨y3, x0, x1, x2, x3, x4, x5, x6, x7, x8, x9, x10, x11⟩ := CB.out.cells; rw [HK.out] at x0))
  clear lk y3 x0 x1 x2 x3 x4 x5 x6 x7 x8 x9 x10 x11
  refine (h_put_at w0.heap.size g mb v _ [⟨#[119, 104, 101, 110, 32]⟩] _ 1 _ _ (by simp) CB.out.O rfl rfl (by have := HL.out; simp at this ⊢; omega) (by simp)).mono ?_
  rintro e w1 ⟨rfl, v1, h1, r1⟩
  have C1 := Aside0.mk (CB.out.step h1 r1 HW.out)
  have R1 := Aside0.mk (R0.out.trans ((OutR.of_below GB.out).trans r1))
  clear h1 r1
  obtain ⟨y3, x0, x1, x2, x3, x4, x5, x6, x7, x8, x9, x10, x11⟩ := C1.out.cells
  rw [HK.out] at x0
  go_wp2_with fail
  refine (h_expr_all k _ _ _ _ _ _ _ _ te w0 _ g mb v1 om _ C1.out.B C1.out.O C1.out.M HW.out hr8.out x.h8 Hte.out (by have := HL.out; simp at this ⊢; omega)).mono ?_
  rintro e w2 ⟨rfl, v2, h2, r2⟩
  have C2 := Aside0.mk (C1.out.step h2 r2 HW.out)
  have R2 := Aside0.mk (R1.out.trans r2)
  clear h2 r2 y3 x0 x1 x2 x3 x4 x5 x6 x7 x8 x9 x10 x11
  obtain ⟨y3, x0, x1, x2, x3, x4, x5, x6, x7, x8, x9, x10, x11⟩ := C2.out.cells
  rw [HK.out] at x0
  go_wp2_with fail
  refine (h_dates k w0 _ x _ _ td g mb v2 _ C2.out.B C2.out.O C2.out.K3 C2.out.K4 C2.out.n3 C2.out.o3 Htd.out (by have := HL.out; simp at this ⊢; omega)).mono ?_
  rintro e w3 ⟨rfl, v3, h3, r3⟩
  have C3 := Aside0.mk (C2.out.step h3 r3 HW.out)
  have R3 := Aside0.mk (R2.out.trans r3)
  clear h3 r3 y3 x0 x1 x2 x3 x4 x5 x6 x7 x8 x9 x10 x11
  obtain ⟨y3, x0, x1, x2, x3, x4, x5, x6, x7, x8, x9, x10, x11⟩ := C3.out.cells
  rw [HK.out] at x0
  have CL : Aside0 (CtrAt w0 w3 x w.heap.size (w.heap.size + 1) g mb v3 om (l ++ ([119, 104, 101, 110, 32] ++ (te ++ td)))) := ⟨by simpa using C3.out⟩
  go_wp2_with fail
  clear y3 x0 x1 x2 x3 x4 x5 x6 x7 x8 x9 x10 x11
  go_loopg [119] k (fun kq v119 w' => ∃ i : Int, v119 = .int .i64 i ∧ Aside0 (0 ≤ i) ∧ Aside0 (SubSt kq x i d r w0 w w' w.heap.size (w.heap.size + 1) g mb v om (l ++ ([119, 104, 101, 110, 32] ++ (te ++ td)))) ∧ Aside0 (kq ≤ k))
  case atStart => exact ⟨0, rfl, ⟨Int.le_refl _⟩, ⟨[], r, _, Hr.out, rfl, by simpa using CL.out, R3.out⟩, ⟨Nat.le_refl _⟩⟩
  case round =>
    clear Hr
    obtain ⟨i, rfl, HI, HA, HQ⟩ := hrel
    obtain ⟨pre, rest, v3, hl, hpr, hC, hR⟩ := HA.out
    cases gk with
    | zero => exact absurd hl (by simp [subL])
    | succ k1 =>
      simp only [subL] at hl
      by_cases c5 : i < (x.c.f7.length : Int)
      · rw [if_pos c5] at hl
        obtain ⟨a, ha, hl2⟩ := Option.bind_eq_some_iff.mp hl
        obtain ⟨b, hb, hl3⟩ := Option.bind_eq_some_iff.mp hl2
        have hrest := Option.some.inj hl3
        clear hl hl2 hl3 HA
        have i0 : 0 ≤ i := HI.out
        obtain ⟨y, ad, e5, hyc, p0, p1, p2, p3, p4, p5, p6, p7, p8, p9, p10, p11⟩ := x.sub i i0 c5
        rw [← hyc] at ha
        rw [e5]
        replace p0 := pw_cell_below hC.B p0
        replace p1 := pw_cell_below hC.B p1
        replace p2 := pw_cell_below hC.B p2
        replace p3 := pw_cell_below hC.B p3
        replace p4 := pw_cell_below hC.B p4
        replace p5 := pw_cell_below hC.B p5
        replace p6 := pw_cell_below hC.B p6
        replace p7 := pw_cell_below hC.B p7
        replace p8 := pw_cell_below hC.B p8
        replace p9 := pw_cell_below hC.B p9
        replace p10 := pw_cell_below hC.B p10
        replace p11 := pw_cell_below hC.B p11
        obtain ⟨bk, hbk⟩ : ∃ bk : Bool, (i == 0) = bk := ⟨_, rfl⟩
        have hon : toL (elsOf bk) = (if i = 0 then [32] else [32, 101, 108, 115, 101, 32]) := by
          subst hbk; by_cases e : i = 0 <;> simp [elsOf, e]
        have HON := Aside0.mk hon
        have HA2 := Aside0.mk ha
        have HB := Aside0.mk hb
        have HRE := Aside0.mk hrest
        have HPR := Aside0.mk hpr
        have c5b : decide (i < (x.c.f7.length : Int)) = true := decide_eq_true c5
        have by1 := below_alloc (Below.refl wr.heap.size wr) (.cells #[.int .u8 y.c.f0, .string y.c.f1, .string y.c.f2, .string y.c.f3, .int .u8 y.c.f4.f0, .string y.c.f4.f1, .string y.c.f4.f2, .int .i64 y.c.f4.f3, .slice y.A8 y.c.f4.f4.length y.c8, .int .i64 y.c.f5, .slice y.A10 y.c.f6.length y.c10, .slice y.A11 y.c.f7.length y.c11] 29)
        have BY := Aside0.mk by1
        have CY := Aside0.mk (hC.below by1)
        have KY := Aside0.mk (blk_new wr (.cells #[.int .u8 y.c.f0, .string y.c.f1, .string y.c.f2, .string y.c.f3, .int .u8 y.c.f4.f0, .string y.c.f4.f1, .string y.c.f4.f2, .int .i64 y.c.f4.f3, .slice y.A8 y.c.f4.f4.length y.c8, .int .i64 y.c.f5, .slice y.A10 y.c.f6.length y.c10, .slice y.A11 y.c.f7.length y.c11] 29))
        have RY := Aside0.mk (hR.trans (OutR.of_below (g := g) (v := v3) by1))
        obtain ⟨yg, yv⟩ := h_fresh hC.O
        have YG := Aside0.mk yg
        have YV := Aside0.mk yv
        have y3 := CY.out.box
        clear ha hb hrest hpr hon hyc by1 yg yv hC hR
        go_wp2_with fail
        clear p0 p1 p2 p3 p4 p5 p6 p7 p8 p9 p10 p11 y3
        have y3 := CY.out.box
        generalize wr.alloc (.cells #[.int .u8 y.c.f0, .string y.c.f1, .string y.c.f2, .string y.c.f3, .int .u8 y.c.f4.f0, .string y.c.f4.f1, .string y.c.f4.f2, .int .i64 y.c.f4.f3, .slice y.A8 y.c.f4.f4.length y.c8, .int .i64 y.c.f5, .slice y.A10 y.c.f6.length y.c10, .slice y.A11 y.c.f7.length y.c11] 29) = W1 at CY KY RY y3 ⊢
        generalize wr.heap.size = gy at KY YG YV ⊢
        rw [@run_makeMap Tryd.prog]
        simp only [Result.andThen]
        rw [Oper.upon_value]
        go_wp2_with (first
          | ((with_reducible refine h_arm_put W1 (n := 0) (D := (.map [])) (k := true) (BMap.made _) (below_alloc (Below.refl _ _) _) (Nat.le_refl _) (by decide) (by decide) ?_); intro wa ma ga; have MA := Aside0.mk ma; have GA := Aside0.mk ga; clear ma ga)
          | ((with_reducible refine h_arm_put W1 (n := 1) (D := (DataW.put (.map []) (.bool true) (.lit (.string (⟨#[32]⟩ : ByteArray).data.toList)))) (k := false) MA.out GA.out (Nat.le_refl _) (by decide) (by decide) ?_); intro wb mc gb; have MB : Aside0 (BMap wb W1.heap.size 2 elsD) := Aside0.mk mc; have GB := Aside0.mk gb; have CB := Aside0.mk (CY.out.below GB.out); have lk := BMap.look MB.out bk (elsOf bk) (elsD_on bk); clear mc gb y3; obtain ⟨y3, x0, x1, x2, x3, x4, x5, x6, x7, x8, x9, x10, x11⟩ := CB.out.cells; rw [HK.out] at x0))
        clear lk y3 x0 x1 x2 x3 x4 x5 x6 x7 x8 x9 x10 x11
        refine (h_put_at w0.heap.size g mb v3 _ [(elsOf bk)] _ 1 _ _ (by simp) CB.out.O rfl rfl (by have := HL.out; have e1 := HPR.out; have e2 := HRE.out; rw [← HON.out] at e2; rw [← e1, ← e2] at this; simp at this ⊢; omega) (by simp)).mono ?_
        rintro e w7 ⟨rfl, v7, h7, r7⟩
        have KB := Aside0.mk (blk_below KY.out GB.out)
        have C7 := Aside0.mk (CB.out.step h7 r7 HW.out)
        have K7 := Aside0.mk (r7.blk KB.out YG.out YV.out)
        have R7 := Aside0.mk ((RY.out.trans (OutR.of_below (g := g) (v := v3) GB.out)).trans r7)
        clear h7 r7 hbk c5b
        have y3 := C7.out.box
        obtain ⟨z0, z1, z2, z3, z4, z5, z6, z7, z8, z9, z10, z11⟩ := h_box12 K7.out
        go_wp2_with fail
        clear y3 z0 z1 z2 z3 z4 z5 z6 z7 z8 z9 z10 z11
        have bc := below_alloc (Below.refl w7.heap.size w7) (.cells #[.int .u8 y.c.f0, .string y.c.f1, .string y.c.f2, .string y.c.f3, .int .u8 y.c.f4.f0, .string y.c.f4.f1, .string y.c.f4.f2, .int .i64 y.c.f4.f3, .slice y.A8 y.c.f4.f4.length y.c8, .int .i64 y.c.f5, .slice y.A10 y.c.f6.length y.c10, .slice y.A11 y.c.f7.length y.c11] 29)
        have hs1 := h_subs_one y C7.out.O
        unfold Nd.cells at hs1
        refine (h_braces k1 (fun m hm => IH.out m (by have := HQ.out; omega)) w0 _ ⟨#[]⟩ _ [y] _ _ rfl d a g mb v7 om _ hd0 hd1 (C7.out.below bc).B (C7.out.below bc).O (C7.out.below bc).M HW.out hs1 HA2.out (by have := HL.out; have e1 := HPR.out; have e2 := HRE.out; rw [← HON.out] at e2; rw [← e1, ← e2] at this; simp at this ⊢; omega)).mono ?_
        rintro e w8 ⟨rfl, v8, h8, r8⟩
        have C8 := Aside0.mk ((C7.out.below bc).step h8 r8 HW.out)
        have R8 := Aside0.mk (R7.out.trans ((OutR.of_below (g := g) (v := v7) bc).trans r8))
        clear h8 r8 bc hs1
        rw [← e5]
        clear e5
        go_wp2_with fail
        go_roundg k1
        case measure => have := HQ.out; omega
        case rel =>
          refine ⟨i + 1, by go_num, ⟨by omega⟩, ⟨pre ++ (toL (elsOf bk) ++ ([123] ++ (a ++ (lineOf d ++ [125])))), b, v8, HB.out, ?_, by simpa using C8.out, R8.out⟩, ⟨by have := HQ.out; omega⟩⟩
          have e1 := HPR.out
          have e2 := HRE.out
          rw [← HON.out] at e2
          rw [← e1, ← e2]
          simp
      · rw [if_neg c5] at hl
        obtain rfl := Option.some.inj hl
        have c5b : decide (i < (x.c.f7.length : Int)) = false := decide_eq_false c5
        have C7 := Aside0.mk hC
        have R7 := Aside0.mk hR
        have HPR := Aside0.mk hpr
        clear hl hpr hC hR HA
        go_wp2_with fail
        go_end0
        refine ⟨rfl, v3, ?_, R7.out⟩
        have := C7.out.O
        rw [← HPR.out]
        simpa using this

-- IMPORT Derived.Outline
theorem h_ctr_all : ∀ k, CtrSaid k := by
  intro k
  induction k using Nat.strongRecOn with
  | _ k ih =>
  intro w0 w x d t g mb v om l hB h hm hw hf hlen
  cases k with
  | zero => exact absurd hf (by simp [ctrF])
  | succ k =>
  replace ih : ∀ m, m < k → CtrSaid m := fun m hm => ih m (by omega)
  simp only [ctrF] at hf
  by_cases c0 : 0 ≤ d ∧ d ≤ 900
  case neg => rw [if_neg c0] at hf; cases hf
  rw [if_pos c0] at hf
  obtain ⟨hd0, hd1⟩ := c0
  by_cases k1 : x.c.f0 = 1
  · rw [if_pos k1] at hf
    obtain rfl := Option.some.inj hf
    exact h_ctr_1 k ih w0 w x k1 d g mb v om l hd0 hd1 hB h hm hw hlen
  rw [if_neg k1] at hf
  by_cases k2 : x.c.f0 = 2
  · rw [if_pos k2] at hf
    obtain ⟨n1, hn1, hf⟩ := Option.bind_eq_some_iff.mp hf
    obtain ⟨te, hte, hf⟩ := Option.bind_eq_some_iff.mp hf
    obtain ⟨n3, hn3, hf⟩ := Option.bind_eq_some_iff.mp hf
    obtain ⟨n2, hn2, hf⟩ := Option.bind_eq_some_iff.mp hf
    obtain rfl := Option.some.inj hf
    exact h_ctr_2 k ih w0 w x k2 d g mb v om l n1 hn1 te hte n3 hn3 n2 hn2 hd0 hd1 hB h hm hw hlen
  rw [if_neg k2] at hf
  by_cases k3 : x.c.f0 = 3
  · rw [if_pos k3] at hf
    obtain ⟨br, hbr, hf⟩ := Option.bind_eq_some_iff.mp hf
    obtain rfl := Option.some.inj hf
    exact h_ctr_3 k ih w0 w x k3 d g mb v om l br hbr hd0 hd1 hB h hm hw hlen
  rw [if_neg k3] at hf
  by_cases k4 : x.c.f0 = 4
  · rw [if_pos k4] at hf
    obtain ⟨te, hte, hf⟩ := Option.bind_eq_some_iff.mp hf
    obtain ⟨r, hr, hf⟩ := Option.bind_eq_some_iff.mp hf
    obtain rfl := Option.some.inj hf
    exact h_ctr_4 k ih w0 w x k4 d g mb v om l te hte r hr hd0 hd1 hB h hm hw hlen
  rw [if_neg k4] at hf
  by_cases k5 : x.c.f0 = 5
  · rw [if_pos k5] at hf
    obtain ⟨te, hte, hf⟩ := Option.bind_eq_some_iff.mp hf
    obtain ⟨r, hr, hf⟩ := Option.bind_eq_some_iff.mp hf
    obtain rfl := Option.some.inj hf
    exact h_ctr_5 k ih w0 w x k5 d g mb v om l te hte r hr hd0 hd1 hB h hm hw hlen
  rw [if_neg k5] at hf
  by_cases k6 : x.c.f0 = 6
  · rw [if_pos k6] at hf
    obtain ⟨dy, hdy, hf⟩ := Option.bind_eq_some_iff.mp hf
    obtain ⟨r, hr, hf⟩ := Option.bind_eq_some_iff.mp hf
    obtain rfl := Option.some.inj hf
    exact h_ctr_6 k ih w0 w x k6 d g mb v om l dy hdy r hr hd0 hd1 hB h hm hw hlen
  rw [if_neg k6] at hf
  by_cases k7 : x.c.f0 = 7
  · rw [if_pos k7] at hf
    obtain ⟨n3, hn3, hf⟩ := Option.bind_eq_some_iff.mp hf
    obtain ⟨n1, hn1, hf⟩ := Option.bind_eq_some_iff.mp hf
    obtain ⟨r, hr, hf⟩ := Option.bind_eq_some_iff.mp hf
    obtain rfl := Option.some.inj hf
    exact h_ctr_7 k ih w0 w x k7 d g mb v om l n3 hn3 n1 hn1 r hr hd0 hd1 hB h hm hw hlen
  rw [if_neg k7] at hf
  by_cases k8 : x.c.f0 = 8
  · rw [if_pos k8] at hf
    obtain ⟨n3, hn3, hf⟩ := Option.bind_eq_some_iff.mp hf
    obtain ⟨n1, hn1, hf⟩ := Option.bind_eq_some_iff.mp hf
    obtain ⟨td, htd, hf⟩ := Option.bind_eq_some_iff.mp hf
    obtain ⟨r, hr, hf⟩ := Option.bind_eq_some_iff.mp hf
    obtain rfl := Option.some.inj hf
    exact h_ctr_8 k ih w0 w x k8 d g mb v om l n3 hn3 n1 hn1 td htd r hr hd0 hd1 hB h hm hw hlen
  rw [if_neg k8] at hf
  by_cases k9 : x.c.f0 = 9
  · rw [if_pos k9] at hf
    obtain ⟨te, hte, hf⟩ := Option.bind_eq_some_iff.mp hf
    obtain ⟨td, htd, hf⟩ := Option.bind_eq_some_iff.mp hf
    obtain ⟨r, hr, hf⟩ := Option.bind_eq_some_iff.mp hf
    obtain rfl := Option.some.inj hf
    exact h_ctr_9 k ih w0 w x k9 d g mb v om l te hte td htd r hr hd0 hd1 hB h hm hw hlen
  rw [if_neg k9] at hf
  by_cases k10 : x.c.f0 = 10
  case neg => rw [if_neg k10] at hf; cases hf
  rw [if_pos k10] at hf
  obtain ⟨te, hte, hf⟩ := Option.bind_eq_some_iff.mp hf
  obtain ⟨td, htd, hf⟩ := Option.bind_eq_some_iff.mp hf
  obtain ⟨r, hr, hf⟩ := Option.bind_eq_some_iff.mp hf
  obtain rfl := Option.some.inj hf
  exact h_ctr_10 k ih w0 w x k10 d g mb v om l te hte td htd r hr hd0 hd1 hB h hm hw hlen
def printer_Print.f (k : Nat) (c : S29) : Option (ByteArray × Int) :=
  (contract_Check.f k c).bind fun e => if e = 0 then (ctrF k c 0).bind fun t => if t.length + 4000 ≤ 140737488355328 then printer_text.f t else none else some (⟨#[]⟩, e)
set_option maxHeartbeats 4000000 in
set_option maxRecDepth 100000 in
theorem printer_Print.calls (k : Nat) (w : World) (x : Nd0 w) (s : ByteArray) (r : Int) (hG : ShG w) (hP : PtG w) (h : printer_Print.f k x.c = some (s, r)) :
    Calls Tryd.prog 8 #[.agg x.cells] w fun e w' => e = .returned (.tuple #[.string s, .int .i64 r]) ∧ Below w.heap.size w w' := by
  obtain ⟨e1, he, h1⟩ := Option.bind_eq_some_iff.mp h
  clear h
  have b1 := below_alloc (Below.refl w.heap.size w) (.cells x.cells 29)
  have k1 := blk_new w (.cells x.cells 29)
  obtain ⟨x1, hx1, hxc⟩ : ∃ x1 : Nd0 (w.alloc (.cells x.cells 29)), x1.c = x.c ∧ x1.cells = x.cells :=
    ⟨⟨x.c, x.ok, x.A8, x.c8, x.A10, x.c10, x.A11, x.c11, Kd.C_below x.r8 b1, x.h8, Kd.C_below x.r10 b1, x.h10, Kd.C_below x.r11 b1, x.h11⟩, rfl, rfl⟩
  have hck := contract_Check.calls k _ x1 e1 (hG.below b1) (hP.below b1) (by rw [hx1]; exact he)
  rw [hxc] at hck
  have hall : ∀ w3 : World, Below w.heap.size w w3 → ∃ x3 : Nd0 w3, x3.c = x.c ∧ x3.cells = x.cells := fun w3 b =>
    ⟨⟨x.c, x.ok, x.A8, x.c8, x.A10, x.c10, x.A11, x.c11, Kd.C_below x.r8 b, x.h8, Kd.C_below x.r10 b, x.h10, Kd.C_below x.r11 b, x.h11⟩, rfl, rfl⟩
  unfold Nd.cells at hck b1 k1 hxc ⊢
  have HCK := Aside0.mk hck
  have HALL := Aside0.mk hall
  have B1 := Aside0.mk b1
  have K1 := Aside0.mk k1
  obtain ⟨x0, x1', x2, x3, x4, x5, x6, x7, x8, x9, x10, x11⟩ := h_box12 k1
  clear hall hck b1 k1 hG hP he hx1 hxc x1
  by_cases c1 : e1 = 0
  · rw [if_pos c1] at h1
    obtain ⟨t, ht, h2⟩ := Option.bind_eq_some_iff.mp h1
    by_cases c2 : t.length + 4000 ≤ 140737488355328
    case neg => rw [if_neg c2] at h2; cases h2
    rw [if_pos c2] at h2
    have HT := Aside0.mk ht
    have HX := Aside0.mk h2
    have C2 := Aside0.mk c2
    have c1b : (e1 == 0) = true := beq_iff_eq.mpr c1
    clear h1 h2 c1 ht c2
    go_enter Tryd.func8, Tryd.ntmps8
    go_wp2_with (first
      | (go_at_call 18; refine HCK.out.mono ?_; rintro e w2 ⟨rfl, hb⟩; have B2 := Aside0.mk (below_step B1.out hb); have K2 := Aside0.mk (blk_below K1.out hb); clear hb x0 x1' x2 x3 x4 x5 x6 x7 x8 x9 x10 x11)
      | (go_at_call 19; refine (h_words _).mono ?_; rintro e w3 ⟨rfl, hm, hb, _⟩; have M3 := Aside0.mk hm.out; have B3 := Aside0.mk (below_step B2.out hb); have K3 := Aside0.mk (blk_below K2.out hb); clear hb hm; have B4 := Aside0.mk (below_alloc (Below.refl w3.heap.size w3) (.cells #[.pointer none, .slice none 0 0, .map (some w2.heap.size)] 54)); have K4 := Aside0.mk (blk_below K3.out B4.out); obtain ⟨x0, x1', x2, x3, x4, x5, x6, x7, x8, x9, x10, x11⟩ := h_box12 K4.out))
    clear x0 x1' x2 x3 x4 x5 x6 x7 x8 x9 x10 x11
    obtain ⟨om, hm, hw⟩ := M3.out
    obtain ⟨y, hyc, hys⟩ := HALL.out w3 B3.out
    have O4 := h_out_new w3 w2.heap.size
    have hcall := h_ctr_all k w3 _ y 0 t _ _ _ om [] B4.out O4 (blk_below hm B4.out) hw (by rw [hyc]; exact HT.out) (by simpa using C2.out)
    rw [hys] at hcall
    unfold Nd.cells at hcall
    refine hcall.mono ?_
    rintro e w5 ⟨rfl, v5, h5, r5⟩
    have O5 := Aside0.mk h5
    have B5 := Aside0.mk (B4.out.trans (O4.step r5))
    clear h5 r5 hcall hys hyc hm hw O4
    go_wp2_with (go_at_call 21; refine (h_text _ _ _ _ _ s r _ O5.out HX.out).mono ?_; rintro e w6 ⟨rfl, hb⟩; have B6 := Aside0.mk (B5.out.trans hb); clear hb)
    go_ret2
    exact ⟨rfl, below_step B3.out B6.out⟩
  · rw [if_neg c1] at h1
    have h1' := Option.some.inj h1
    have e2 : s = ⟨#[]⟩ := (congrArg Prod.fst h1').symm
    have e3 : r = e1 := (congrArg Prod.snd h1').symm
    subst e2 e3
    clear h1 h1'
    have c1b : (r == 0) = false := beq_eq_false_iff_ne.mpr c1
    go_enter Tryd.func8, Tryd.ntmps8
    go_wp2_with (first
      | (go_at_call 18; refine HCK.out.mono ?_; rintro e w2 ⟨rfl, hb⟩; have B2 := Aside0.mk (below_step B1.out hb); clear hb x0 x1' x2 x3 x4 x5 x6 x7 x8 x9 x10 x11))
    go_ret2
    exact ⟨rfl, B2.out⟩

end Go.Proofs.YtalaekadkjhldaaDoor.Pr
