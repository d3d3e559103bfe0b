/- A part of the proof of the statement PrinterNames (the printer's examples, further texts and errors): contracts of functions of the program, proved by walking their text. -/
import Derived.Test.YtalaekadkjhldaaDoorPn0
import Derived.Test.YtalaekadkjhldaaDoorPn1
import Derived.Test.YtalaekadkjhldaaDoorPn2
import Derived.Test.YtalaekadkjhldaaDoorPn3
import Derived.Test.YtalaekadkjhldaaDoorPn4
import Derived.Test.YtalaekadkjhldaaDoorPn5
import Derived.Test.YtalaekadkjhldaaDoorPn6
import Derived.Outline
import Derived.Deep.RegionWith
import Derived.Deep.LoopGhost
import Derived.Test.YtalaekadkjhldaaDoorShelf
import Derived.Test.YtalaekadkjhldaaDoorHa
import Derived.Test.YtalaekadkjhldaaDoorHb
namespace Go.Proofs.YtalaekadkjhldaaDoor.Pr
open Go.RowKit Go.Proofs.YtalaekadkjhldaaDoorW.PrintWords Go.Proofs.YtalaekadkjhldaaDoorW.PrintLast Go.Proofs.YtalaekadkjhldaaDoorW.PrintMore
attribute [local go_sem] max2_int min2_int max_two min_two max_three min_three max_four min_four
set_option linter.unusedVariables false
set_option linter.unusedSimpArgs false
-- IMPORT Derived.Outline
theorem h_add5 (a : Addr) : a.add 5 = ⟨a.block, a.off + 5, none⟩ := by simp [Addr.add]
theorem h_fresh {B g mb : Nat} {w : World} {v : Value} {l : List UInt8} (h : OutAt B w g v mb l) : w.heap.size ≠ g ∧ v.ownBlock ≠ some w.heap.size := by
  obtain ⟨a, _, hg⟩ := h.blk
  refine ⟨fun e => ?_, fun e => ?_⟩
  · have := blk_lt hg; omega
  · have := own_lt h.own _ e; omega
theorem h_op (a0 : Int) (h : 4 ≤ a0 ∧ a0 ≤ 6) : printer_operator.f a0 = some (signOf a0, ownOf a0, secondOf a0) := by
  have : a0 = 4 ∨ a0 = 5 ∨ a0 = 6 := by omega
  rcases this with h | h | h <;> subst h <;> rfl
theorem h_sign_ne (a0 : Int) : (signOf a0).toList ≠ [] := by
  unfold signOf
  split
  · exact fun h => by have := congrArg List.length h; simp [ByteArray.toList, ByteArray.toList.loop, ByteArray.size, ByteArray.get!] at this
  · split
    · exact fun h => by have := congrArg List.length h; simp [ByteArray.toList, ByteArray.toList.loop, ByteArray.size, ByteArray.get!] at this
    · exact fun h => by have := congrArg List.length h; simp [ByteArray.toList, ByteArray.toList.loop, ByteArray.size, ByteArray.get!] at this
set_option maxHeartbeats 4000000 in
set_option maxRecDepth 100000 in
theorem h_expr_ops (k : Nat) (ih : ExprSaid k) (a0 : Int) (a1 a2 : ByteArray) (a3 : Int) (A4 : Option Addr) (c4 : Nat) (l4 : List S25) (least : Int) (s t : List UInt8) (w0 w : World) (g mb : Nat) (v : Value) (om : Obj) (l : List UInt8)
    (hB : Below w0.heap.size w0 w) (h : OutAt w0.heap.size w g v mb l) (hm : w.heap[mb]? = some om) (hw : WordsOK mb om) (hr : Kd.C k25 w0 A4 l4.length l4) (hc : l4.length ≤ c4) (ha : 4 ≤ a0 ∧ a0 ≤ 6) (h2 : 2 ≤ l4.length)
    (hs : printer_expr.f k (rd_T25 l4 0).f0 (rd_T25 l4 0).f1 (rd_T25 l4 0).f2 (rd_T25 l4 0).f3 (rd_T25 l4 0).f4 (ownOf a0) = some s)
    (ht : printer_expr.f k (rd_T25 l4 1).f0 (rd_T25 l4 1).f1 (rd_T25 l4 1).f2 (rd_T25 l4 1).f3 (rd_T25 l4 1).f4 (secondOf a0) = some t)
    (hown : ¬ ownOf a0 < least) (hlen : l.length + (s ++ (toL (signOf a0) ++ t)).length ≤ 140737488355328) :
    Calls Tryd.prog 23 #[.pointer (some ⟨g, 0, none⟩), .agg #[.int .u8 a0, .string a1, .string a2, .int .i64 a3, .slice A4 l4.length c4], .int .i64 least] w fun e w' => e = .returned (.tuple #[]) ∧ ∃ v', OutAt w0.heap.size w' g v' mb (l ++ (s ++ (toL (signOf a0) ++ t))) ∧ OutR g w v w' v' := by
  have HO := Aside0.mk h
  have HL := Aside0.mk hlen
  have HM := Aside0.mk hm
  have HW := Aside0.mk hw
  have HR := Aside0.mk hr
  have IH := Aside0.mk ih
  have HS := Aside0.mk hs
  have HT := Aside0.mk ht
  have H0 := Aside0.mk hB
  have hop := Aside0.mk (h_op a0 ha)
  have cow : decide (ownOf a0 < least) = false := decide_eq_false hown
  have csg : ((signOf a0).toList != []) = true := bne_iff_ne.mpr (h_sign_ne a0)
  have csg2 : (signOf a0).toList.isEmpty = false := by have := h_sign_ne a0; cases h : (signOf a0).toList <;> simp_all
  have HB := Aside0.mk (below_alloc (Below.refl w.heap.size w) (.cells #[.int .u8 a0, .string a1, .string a2, .int .i64 a3, .slice A4 l4.length c4] 25))
  have K0 := Aside0.mk (blk_new w (.cells #[.int .u8 a0, .string a1, .string a2, .int .i64 a3, .slice A4 l4.length c4] 25))
  have l0 : (0 : Int) < (l4.length : Int) := by omega
  have l1 : (1 : Int) < (l4.length : Int) := by omega
  obtain ⟨ad, A0, c0, e0, p0, p1, p2, p3, p4, q0, g0⟩ := at_T25 hr 0 (by omega) (by omega)
  cases e0
  obtain ⟨ad', A1, c1, e1, s0, s1, s2, s3, s4, q1, g1⟩ := at_T25 hr 1 (by omega) (by omega)
  cases e1
  simp only [show Int.toNat 0 * 5 = 0 from rfl, show Int.toNat 1 * 5 = 5 from rfl, Addr.add_zero', h_add5] at p0 p1 p2 p3 p4 s0 s1 s2 s3 s4
  have P := Aside0.mk (And.intro p0 (And.intro p1 (And.intro p2 (And.intro p3 p4))))
  have S := Aside0.mk (And.intro s0 (And.intro s1 (And.intro s2 (And.intro s3 s4))))
  have G0 := Aside0.mk g0
  have G1 := Aside0.mk g1
  clear h hlen hm hw hr ih hs ht hB hown ha p0 p1 p2 p3 p4 s0 s1 s2 s3 s4 g0 g1
  go_enter_defers Tryd.func23, Tryd.ntmps23
  go_wp2_with (first
    | (go_at_call 40; refine (printer_operator.calls _ _ _ _ _ hop.out).mono ?_; rintro e w1 ⟨rfl, hd⟩; have B1 := Aside0.mk (below_step HB.out hd.below); have K1 := Aside0.mk (blk_below K0.out hd.below); have D1 := Aside0.mk hd.below; clear hd; obtain ⟨x0, x1, x2, x3, x4⟩ := h_box5 K1.out; have B01 := Aside0.mk (below_step H0.out B1.out); obtain ⟨p0, p1, p2, p3, p4⟩ := P.out; replace p0 := pw_cell_below B01.out p0; replace p1 := pw_cell_below B01.out p1; replace p2 := pw_cell_below B01.out p2; replace p3 := pw_cell_below B01.out p3; replace p4 := pw_cell_below B01.out p4))
  obtain ⟨fg, fv⟩ := h_fresh HO.out
  have FG := Aside0.mk fg
  have FV := Aside0.mk fv
  have M1 := Aside0.mk (blk_below HM.out B1.out)
  have O1 := Aside0.mk (HO.out.below B1.out)
  clear fg fv x0 x1 x2 x3 x4 p0 p1 p2 p3 p4
  refine (IH.out _ _ _ _ _ _ _ _ s w0 _ g mb v om l B01.out O1.out M1.out HW.out G0.out q0 HS.out (by have := HL.out; simp at this ⊢; omega)).mono ?_
  rintro e w2 ⟨rfl, v1, h2', r1⟩
  have O2 := Aside0.mk h2'
  have R1 := Aside0.mk r1
  have K2 := Aside0.mk (r1.blk K1.out FG.out FV.out)
  have FV1 := Aside0.mk (r1.off (blk_lt K1.out) FV.out)
  have M2 := Aside0.mk (h_map_keep O1.out r1 M1.out HW.out)
  have B02 := Aside0.mk (B01.out.trans (O1.out.step r1))
  clear h2' r1
  obtain ⟨x0, x1, x2, x3, x4⟩ := h_box5 K2.out
  go_wp2_with fail
  clear x0 x1 x2 x3 x4
  refine (h_put_new w0.heap.size g mb v1 _ [signOf a0] _ 1 _ O2.out rfl rfl (by have := HL.out; simp at this ⊢; omega) (by simp)).mono ?_
  rintro e w3 ⟨rfl, v2, h3', r2⟩
  have O3 := Aside0.mk h3'
  have R2 := Aside0.mk r2
  have K3 := Aside0.mk (r2.blk K2.out FG.out FV1.out)
  have FV2 := Aside0.mk (r2.off (blk_lt K2.out) FV1.out)
  have M3 := Aside0.mk (h_map_keep O2.out r2 M2.out HW.out)
  have B03 := Aside0.mk (B02.out.trans (O2.out.step r2))
  clear h3' r2
  obtain ⟨x0, x1, x2, x3, x4⟩ := h_box5 K3.out
  obtain ⟨s0, s1, s2, s3, s4⟩ := S.out
  replace s0 := pw_cell_below B03.out s0
  replace s1 := pw_cell_below B03.out s1
  replace s2 := pw_cell_below B03.out s2
  replace s3 := pw_cell_below B03.out s3
  replace s4 := pw_cell_below B03.out s4
  go_wp2_with fail
  clear x0 x1 x2 x3 x4 s0 s1 s2 s3 s4
  refine (IH.out _ _ _ _ _ _ _ _ t w0 _ g mb v2 om _ B03.out O3.out M3.out HW.out G1.out q1 HT.out (by have := HL.out; simp at this ⊢; omega)).mono ?_
  rintro e w4 ⟨rfl, v3, h4', r3⟩
  have O4 := Aside0.mk h4'
  have R3 := Aside0.mk r3
  clear h4' r3
  go_wp2_with fail
  exact h_expr_end ⟨rfl, v3, by simpa using O4.out, (OutR.of_below B1.out).trans ((R1.out.trans R2.out).trans R3.out)⟩

-- IMPORT Derived.Outline
theorem h_reads_one {W : World} {k : Nat} {s : ByteArray} {t : TypeId} (h : W.heap[k]? = some (.cells #[.string s] t (0, 0))) : Kd.C Kd.string W (some ⟨k, 0, none⟩) 1 [s] := by
  refine Kd.C_of_reads (d := ByteArray.empty) (h1 := fun _ => rfl) ⟨rfl, by omega, fun _ => ⟨_, rfl, fun j hj => ?_⟩⟩
  obtain rfl : j = 0 := by omega
  rw [add_plain, blk_cell h 0]
  rfl
set_option maxHeartbeats 4000000 in
set_option maxRecDepth 100000 in
theorem h_expr_paren (k : Nat) (ih : ExprSaid k) (a0 : Int) (a1 a2 : ByteArray) (a3 : Int) (A4 : Option Addr) (c4 : Nat) (l4 : List S25) (least : Int) (s t : List UInt8) (w0 w : World) (g mb : Nat) (v : Value) (om : Obj) (l : List UInt8)
    (hB : Below w0.heap.size w0 w) (h : OutAt w0.heap.size w g v mb l) (hm : w.heap[mb]? = some om) (hw : WordsOK mb om) (hr : Kd.C k25 w0 A4 l4.length l4) (hc : l4.length ≤ c4) (ha : 4 ≤ a0 ∧ a0 ≤ 6) (h2 : 2 ≤ l4.length)
    (hs : printer_expr.f k (rd_T25 l4 0).f0 (rd_T25 l4 0).f1 (rd_T25 l4 0).f2 (rd_T25 l4 0).f3 (rd_T25 l4 0).f4 (ownOf a0) = some s)
    (ht : printer_expr.f k (rd_T25 l4 1).f0 (rd_T25 l4 1).f1 (rd_T25 l4 1).f2 (rd_T25 l4 1).f3 (rd_T25 l4 1).f4 (secondOf a0) = some t)
    (hown : ownOf a0 < least) (hlen : l.length + ([40] ++ (s ++ (toL (signOf a0) ++ t)) ++ [41]).length ≤ 140737488355328) :
    Calls Tryd.prog 23 #[.pointer (some ⟨g, 0, none⟩), .agg #[.int .u8 a0, .string a1, .string a2, .int .i64 a3, .slice A4 l4.length c4], .int .i64 least] w fun e w' => e = .returned (.tuple #[]) ∧ ∃ v', OutAt w0.heap.size w' g v' mb (l ++ ([40] ++ (s ++ (toL (signOf a0) ++ t)) ++ [41])) ∧ OutR g w v w' v' := by
  have HO := Aside0.mk h
  have HL := Aside0.mk hlen
  have HM := Aside0.mk hm
  have HW := Aside0.mk hw
  have HR := Aside0.mk hr
  have IH := Aside0.mk ih
  have HS := Aside0.mk hs
  have HT := Aside0.mk ht
  have H0 := Aside0.mk hB
  have hop := Aside0.mk (h_op a0 ha)
  have cow : decide (ownOf a0 < least) = true := decide_eq_true hown
  have csg : ((signOf a0).toList != []) = true := bne_iff_ne.mpr (h_sign_ne a0)
  have csg2 : (signOf a0).toList.isEmpty = false := by have := h_sign_ne a0; cases h : (signOf a0).toList <;> simp_all
  have HB := Aside0.mk (below_alloc (Below.refl w.heap.size w) (.cells #[.int .u8 a0, .string a1, .string a2, .int .i64 a3, .slice A4 l4.length c4] 25))
  have K0 := Aside0.mk (blk_new w (.cells #[.int .u8 a0, .string a1, .string a2, .int .i64 a3, .slice A4 l4.length c4] 25))
  have l0 : (0 : Int) < (l4.length : Int) := by omega
  have l1 : (1 : Int) < (l4.length : Int) := by omega
  obtain ⟨ad, A0, c0, e0, p0, p1, p2, p3, p4, q0, g0⟩ := at_T25 hr 0 (by omega) (by omega)
  cases e0
  obtain ⟨ad', A1, c1, e1, s0, s1, s2, s3, s4, q1, g1⟩ := at_T25 hr 1 (by omega) (by omega)
  cases e1
  simp only [show Int.toNat 0 * 5 = 0 from rfl, show Int.toNat 1 * 5 = 5 from rfl, Addr.add_zero', h_add5] at p0 p1 p2 p3 p4 s0 s1 s2 s3 s4
  have P := Aside0.mk (And.intro p0 (And.intro p1 (And.intro p2 (And.intro p3 p4))))
  have S := Aside0.mk (And.intro s0 (And.intro s1 (And.intro s2 (And.intro s3 s4))))
  have G0 := Aside0.mk g0
  have G1 := Aside0.mk g1
  clear h hlen hm hw hr ih hs ht hB hown ha p0 p1 p2 p3 p4 s0 s1 s2 s3 s4 g0 g1
  go_enter_defers Tryd.func23, Tryd.ntmps23
  go_wp2_with (first
    | (go_at_call 40; refine (printer_operator.calls _ _ _ _ _ hop.out).mono ?_; rintro e w1 ⟨rfl, hd⟩; have B1 := Aside0.mk (below_step HB.out hd.below); have K1 := Aside0.mk (blk_below K0.out hd.below); have D1 := Aside0.mk hd.below; clear hd; obtain ⟨x0, x1, x2, x3, x4⟩ := h_box5 K1.out; have B01 := Aside0.mk (below_step H0.out B1.out)))
  obtain ⟨fg, fv⟩ := h_fresh HO.out
  have FG := Aside0.mk fg
  have FV := Aside0.mk fv
  have M1 := Aside0.mk (blk_below HM.out B1.out)
  have O1 := Aside0.mk (HO.out.below B1.out)
  clear fg fv x0 x1 x2 x3 x4
  refine (h_put_new w0.heap.size g mb v _ [⟨#[40]⟩] _ 1 _ O1.out rfl rfl (by have := HL.out; simp at this ⊢; omega) (by simp)).mono ?_
  rintro e wa ⟨rfl, va, ha', ra⟩
  have OA := Aside0.mk ha'
  have RA := Aside0.mk ra
  have KA := Aside0.mk (ra.blk K1.out FG.out FV.out)
  have FVA := Aside0.mk (ra.off (blk_lt K1.out) FV.out)
  have MA := Aside0.mk (h_map_keep O1.out ra M1.out HW.out)
  have B0A := Aside0.mk (B01.out.trans (O1.out.step ra))
  clear ha' ra
  have BP := Aside0.mk (below_alloc (Below.refl wa.heap.size wa) (.cells #[.string ⟨#[41]⟩] 9))
  have KPB := Aside0.mk (blk_new wa (.cells #[.string ⟨#[41]⟩] 9))
  have OB := Aside0.mk (OA.out.below BP.out)
  have KB := Aside0.mk (blk_below KA.out BP.out)
  have MB := Aside0.mk (blk_below MA.out BP.out)
  have B0B := Aside0.mk (below_step B0A.out BP.out)
  obtain ⟨pg, pv⟩ := h_fresh OA.out
  have PG := Aside0.mk pg
  have PV := Aside0.mk pv
  have SZ := Aside0.mk (show w.heap.size < wa.heap.size from blk_lt KA.out)
  clear pg pv
  obtain ⟨x0, x1, x2, x3, x4⟩ := h_box5 KB.out
  obtain ⟨p0, p1, p2, p3, p4⟩ := P.out
  replace p0 := pw_cell_below B0B.out p0
  replace p1 := pw_cell_below B0B.out p1
  replace p2 := pw_cell_below B0B.out p2
  replace p3 := pw_cell_below B0B.out p3
  replace p4 := pw_cell_below B0B.out p4
  go_wp2_with fail
  clear x0 x1 x2 x3 x4 p0 p1 p2 p3 p4
  refine (IH.out _ _ _ _ _ _ _ _ s w0 _ g mb va om _ B0B.out OB.out MB.out HW.out G0.out q0 HS.out (by have := HL.out; simp at this ⊢; omega)).mono ?_
  rintro e w2 ⟨rfl, v1, h2', r1⟩
  have O2 := Aside0.mk h2'
  have R1 := Aside0.mk r1
  have K2 := Aside0.mk (r1.blk KB.out FG.out FVA.out)
  have FV1 := Aside0.mk (r1.off (blk_lt KB.out) FVA.out)
  have KP2 := Aside0.mk (r1.blk KPB.out PG.out PV.out)
  have PV1 := Aside0.mk (r1.off (blk_lt KPB.out) PV.out)
  have M2 := Aside0.mk (h_map_keep OB.out r1 MB.out HW.out)
  have B02 := Aside0.mk (B0B.out.trans (OB.out.step r1))
  clear h2' r1
  obtain ⟨x0, x1, x2, x3, x4⟩ := h_box5 K2.out
  go_wp2_with fail
  clear x0 x1 x2 x3 x4
  refine (h_put_new w0.heap.size g mb v1 _ [signOf a0] _ 1 _ O2.out rfl rfl (by have := HL.out; simp at this ⊢; omega) (by simp)).mono ?_
  rintro e w3 ⟨rfl, v2, h3', r2⟩
  have O3 := Aside0.mk h3'
  have R2 := Aside0.mk r2
  have K3 := Aside0.mk (r2.blk K2.out FG.out FV1.out)
  have FV2 := Aside0.mk (r2.off (blk_lt K2.out) FV1.out)
  have KP3 := Aside0.mk (r2.blk KP2.out PG.out PV1.out)
  have PV2 := Aside0.mk (r2.off (blk_lt KP2.out) PV1.out)
  have M3 := Aside0.mk (h_map_keep O2.out r2 M2.out HW.out)
  have B03 := Aside0.mk (B02.out.trans (O2.out.step r2))
  clear h3' r2
  obtain ⟨x0, x1, x2, x3, x4⟩ := h_box5 K3.out
  obtain ⟨s0, s1, s2, s3, s4⟩ := S.out
  replace s0 := pw_cell_below B03.out s0
  replace s1 := pw_cell_below B03.out s1
  replace s2 := pw_cell_below B03.out s2
  replace s3 := pw_cell_below B03.out s3
  replace s4 := pw_cell_below B03.out s4
  go_wp2_with fail
  clear x0 x1 x2 x3 x4 s0 s1 s2 s3 s4
  refine (IH.out _ _ _ _ _ _ _ _ t w0 _ g mb v2 om _ B03.out O3.out M3.out HW.out G1.out q1 HT.out (by have := HL.out; simp at this ⊢; omega)).mono ?_
  rintro e w4 ⟨rfl, v3, h4', r3⟩
  have O4 := Aside0.mk h4'
  have R3 := Aside0.mk r3
  have KP4 := Aside0.mk (r3.blk KP3.out PG.out PV2.out)
  have PV3 := Aside0.mk (r3.off (blk_lt KP3.out) PV2.out)
  clear h4' r3
  go_wp2_with fail
  refine leaves_cons (f := 32) (args := #[.pointer (some ⟨g, 0, none⟩), .slice (some ⟨wa.heap.size, 0, none⟩) 1 1]) (by simp) (by simp [go_sem]) ?_
  refine (h_putD w0.heap.size g mb v3 _ _ 1 [⟨#[41]⟩] .returning w4 O4.out (h_reads_one KP4.out) (fun ad e => by injection e with e; subst e; exact ⟨PG.out, PV3.out⟩) (by have := HL.out; have e41 : (⟨#[41]⟩ : ByteArray).size = 1 := rfl; simp at this; simp [e41]; omega)).mono ?_
  rintro e u' w5 ⟨rfl, rfl, v4, h5, r4⟩
  refine ⟨.tuple #[], by simp [results, Tryd.results23], rfl, v4, by simpa using h5, ?_⟩
  exact (OutR.of_below B1.out).trans (RA.out.trans ((OutR.of_below BP.out).trans (((R1.out.trans R2.out).trans R3.out).trans r4)))

-- IMPORT Derived.Outline Derived.Deep.RegionWith Derived.Deep.LoopGhost
theorem h_put_at (B g mb : Nat) (v : Value) (l : List UInt8) (xs : List ByteArray) (cs : Array Value) (n k : Nat) (W : World) (hk : k = W.heap.size) (h : OutAt B W g v mb l) (hn : n = xs.length) (hcs : cs = (xs.map Value.string).toArray) (hlen : (l ++ (xs.map (·.data.toList)).flatten).length ≤ 140737488355328) (hx : xs.length ≤ 1000) :
    Calls Tryd.prog 32 #[.pointer (some ⟨g, 0, none⟩), .slice (some ⟨k, 0, none⟩) n n] (W.alloc (.cells cs 9)) fun e w' => e = .returned (.tuple #[]) ∧ ∃ v', OutAt B w' g v' mb (l ++ (xs.map (·.data.toList)).flatten) ∧ OutR g W v w' v' := by
  subst hk
  exact h_put_new B g mb v l xs cs n W h hn hcs hlen hx
theorem h_op_none (a0 : Int) (h : ¬ (4 ≤ a0 ∧ a0 ≤ 6)) : printer_operator.f a0 = some (⟨#[]⟩, 2, 2) := by
  unfold printer_operator.f
  rw [if_neg (by omega), if_neg (by omega), if_neg (by omega)]
/-- What the loop over the parts holds. -/
def ListSt (kq : Nat) (l4 : List S25) (i : Int) (t : List UInt8) (w0 w w' : World) (g mb : Nat) (v : Value) (om : Obj) (l : List UInt8) : Prop :=
  ∃ pre rest v', printer_expr.l0 kq l4 i = some rest ∧ pre ++ rest = t ∧ OutAt w0.heap.size w' g v' mb (l ++ pre) ∧ OutR g w v w' v' ∧ w'.heap[mb]? = some om ∧ Below w0.heap.size w0 w'
set_option maxHeartbeats 4000000 in
set_option maxRecDepth 100000 in
theorem h_expr_list (k : Nat) (ih : ∀ m, m < k → ExprSaid m) (a0 : Int) (a1 a2 : ByteArray) (a3 : Int) (A4 : Option Addr) (c4 : Nat) (l4 : List S25) (least : Int) (t : List UInt8) (w0 w : World) (g mb : Nat) (v : Value) (om : Obj) (l : List UInt8)
    (hB : Below w0.heap.size w0 w) (h : OutAt w0.heap.size w g v mb l) (hm : w.heap[mb]? = some om) (hw : WordsOK mb om) (hr : Kd.C k25 w0 A4 l4.length l4) (hc : l4.length ≤ c4) (hk0 : 0 ≤ a0) (hk1 : a0 < 256) (ha : ¬ (4 ≤ a0 ∧ a0 ≤ 6)) (hn1 : ¬ a0 = 1) (hn2 : ¬ a0 = 2) (hn3 : ¬ a0 = 3)
    (hls : ¬ 2 < least) (ht : printer_expr.l0 k l4 0 = some t) (hlen : l.length + (toL (wordOf a0) ++ ([40] ++ (t ++ [41]))).length ≤ 140737488355328) :
    Calls Tryd.prog 23 #[.pointer (some ⟨g, 0, none⟩), .agg #[.int .u8 a0, .string a1, .string a2, .int .i64 a3, .slice A4 l4.length c4], .int .i64 least] w fun e w' => e = .returned (.tuple #[]) ∧ ∃ v', OutAt w0.heap.size w' g v' mb (l ++ (toL (wordOf a0) ++ ([40] ++ (t ++ [41])))) ∧ OutR g w v w' v' := by
  have HO := Aside0.mk h
  have HL := Aside0.mk hlen
  have HM := Aside0.mk hm
  have HW := Aside0.mk hw
  have HR := Aside0.mk hr
  have IH := Aside0.mk ih
  have HT := Aside0.mk ht
  have H0 := Aside0.mk hB
  have hop := Aside0.mk (h_op_none a0 ha)
  have cls : decide (2 < least) = false := decide_eq_false hls
  have n1 : (a0 == 1) = false := beq_eq_false_iff_ne.mpr hn1
  have n2 : (a0 == 2) = false := beq_eq_false_iff_ne.mpr hn2
  have n3 : (a0 == 3) = false := beq_eq_false_iff_ne.mpr hn3
  have HB := Aside0.mk (below_alloc (Below.refl w.heap.size w) (.cells #[.int .u8 a0, .string a1, .string a2, .int .i64 a3, .slice A4 l4.length c4] 25))
  have K0 := Aside0.mk (blk_new w (.cells #[.int .u8 a0, .string a1, .string a2, .int .i64 a3, .slice A4 l4.length c4] 25))
  clear h hlen hm hw hr ih ht hB ha hn1 hn2 hn3 hls
  go_enter_defers Tryd.func23, Tryd.ntmps23
  go_wp2_with (first
    | (go_at_call 40; refine (printer_operator.calls _ _ _ _ _ hop.out).mono ?_; rintro e w1 ⟨rfl, hd⟩; have B1 := Aside0.mk (below_step HB.out hd.below); have K1 := Aside0.mk (blk_below K0.out hd.below); clear hd; obtain ⟨x0, x1, x2, x3, x4⟩ := h_box5 K1.out))
  obtain ⟨fg, fv⟩ := h_fresh HO.out
  have FG := Aside0.mk fg
  have FV := Aside0.mk fv
  have M1 := Aside0.mk (blk_below HM.out B1.out)
  have O1 := Aside0.mk (HO.out.below B1.out)
  have B01 := Aside0.mk (below_step H0.out B1.out)
  clear fg fv
  obtain ⟨aa, haa, hgb⟩ := O1.out.blk
  have g2 : w1.cell? ⟨g, 2, none⟩ = some (.map (some mb)) := (blk_cell hgb 2).trans rfl
  have lk := HW.out.look w1.drew a0 M1.out hk0 hk1
  clear haa hgb
  refine wp_region_noPanic ?_
  go_region_with (first
    | (go_at_call 32; refine (h_put_new w0.heap.size g mb v _ [wordOf a0, ⟨#[40]⟩] _ 2 _ (O1.out.below (below_drew1 (Below.refl _ _))) rfl rfl (by have := HL.out; simp at this ⊢; omega) (by simp)).mono ?_; rintro e w2 ⟨rfl, hq⟩; have HQ := Aside0.mk hq; clear hq))
  all_goals
    refine NoPanic.normal ?_
    obtain ⟨v2, h2', r2⟩ := HQ.out
    have R0 := (OutR.of_below (g := g) (v := v) (below_drew1 (Below.refl w1.heap.size w1))).trans r2
    have O2 := Aside0.mk h2'
    have R2 := Aside0.mk R0
    have K2 := Aside0.mk (R0.blk K1.out FG.out FV.out)
    have M2 := Aside0.mk (h_map_keep O1.out R0 M1.out HW.out)
    have B02 := Aside0.mk (B01.out.trans (O1.out.step R0))
    clear h2' r2 R0 HQ lk g2 x0 x1 x2 x3 x4
    obtain ⟨x0, x1, x2, x3, x4⟩ := h_box5 K2.out
    go_wp2_with fail
    clear x0 x1 x2 x3 x4
    go_loopg [39] k (fun kq v39 w' => ∃ i : Int, v39 = .int .i64 i ∧ Aside0 (0 ≤ i) ∧ Aside0 (ListSt kq l4 i t w0 w2 w' g mb v2 om (l ++ (toL (wordOf a0) ++ [40]))) ∧ Aside0 (kq ≤ k))
    case atStart => exact ⟨0, rfl, ⟨Int.le_refl _⟩, ⟨[], t, v2, HT.out, rfl, by simpa using O2.out, OutR.refl _ _ _, M2.out, B02.out⟩, ⟨Nat.le_refl _⟩⟩
    case round =>
      clear HT
      obtain ⟨i, rfl, HI, HA, HK⟩ := hrel
      obtain ⟨pre, rest, v3, hl, hpr, h3', r3, m3, b03⟩ := HA.out
      cases gk with
      | zero => exact absurd hl (by simp [printer_expr.l0])
      | succ k1 =>
        simp only [printer_expr.l0] at hl
        by_cases c5 : i < (l4.length : Int)
        · rw [if_pos c5] at hl
          obtain ⟨s, hs, hl2⟩ := Option.bind_eq_some_iff.mp hl
          obtain ⟨r, hr, hl3⟩ := Option.bind_eq_some_iff.mp hl2
          have hrest := Option.some.inj hl3
          clear hl hl2 hl3
          have i0 : 0 ≤ i := HI.out
          have hlm : l4.length ≤ 9223372036854775807 := Kd.C_len_le HR.out
          obtain ⟨ad, A5, c5', e5, p0, p1, p2, p3, p4, q5, g5⟩ := at_T25 HR.out i i0 c5
          cases e5
          replace p0 := pw_cell_below b03 p0
          replace p1 := pw_cell_below b03 p1
          replace p2 := pw_cell_below b03 p2
          replace p3 := pw_cell_below b03 p3
          replace p4 := pw_cell_below b03 p4
          have HS := Aside0.mk hs
          have HRR := Aside0.mk hr
          have HRE := Aside0.mk hrest
          have HPR := Aside0.mk hpr
          have O3 := Aside0.mk h3'
          have R3 := Aside0.mk r3
          have M3 := Aside0.mk m3
          have B03 := Aside0.mk b03
          have G5 := Aside0.mk g5
          have c5b : decide (i < (l4.length : Int)) = true := decide_eq_true c5
          clear hs hr hrest hpr h3' r3 m3 b03 g5 HA
          have BY := Aside0.mk (below_alloc (Below.refl wr.heap.size wr) (.cells #[.int .u8 (rd_T25 l4 i).f0, .string (rd_T25 l4 i).f1, .string (rd_T25 l4 i).f2, .int .i64 (rd_T25 l4 i).f3, .slice A5 (rd_T25 l4 i).f4.length c5'] 25))
          have KY := Aside0.mk (blk_new wr (.cells #[.int .u8 (rd_T25 l4 i).f0, .string (rd_T25 l4 i).f1, .string (rd_T25 l4 i).f2, .int .i64 (rd_T25 l4 i).f3, .slice A5 (rd_T25 l4 i).f4.length c5'] 25))
          have OY := Aside0.mk (O3.out.below BY.out)
          have MY := Aside0.mk (blk_below M3.out BY.out)
          have B0Y := Aside0.mk (below_step B03.out BY.out)
          obtain ⟨yg, yv⟩ := h_fresh O3.out
          have YG := Aside0.mk yg
          have YV := Aside0.mk yv
          clear yg yv
          by_cases c6 : 0 < i
          · have c6b : decide (0 < i) = true := decide_eq_true c6
            go_wp2_with fail
            refine (h_put_at w0.heap.size g mb v3 _ [⟨#[44, 32]⟩] _ 1 _ _ (by simp) OY.out rfl rfl (by have := HL.out; have e1 := HPR.out; have e2 := HRE.out; rw [← e1, ← e2] at this; simp [c6] at this ⊢; omega) (by simp)).mono ?_
            rintro e w4 ⟨rfl, v4, h4', r4⟩
            have KY4 := Aside0.mk (r4.blk KY.out YG.out YV.out)
            have O4 := Aside0.mk h4'
            have R4 := Aside0.mk r4
            have M4 := Aside0.mk (h_map_keep OY.out r4 MY.out HW.out)
            have B04 := Aside0.mk (B0Y.out.trans (OY.out.step r4))
            clear h4' r4 p0 p1 p2 p3 p4
            obtain ⟨x0, x1, x2, x3, x4⟩ := h_box5 KY4.out
            go_wp2_with fail
            clear x0 x1 x2 x3 x4
            refine (IH.out k1 (by have := HK.out; omega) _ _ _ _ _ _ _ _ s w0 _ g mb v4 om _ B04.out O4.out M4.out HW.out G5.out q5 HS.out (by have := HL.out; have e1 := HPR.out; have e2 := HRE.out; rw [← e1, ← e2] at this; simp [c6] at this ⊢; omega)).mono ?_
            rintro e w5 ⟨rfl, v5, h5', r5⟩
            have O5 := Aside0.mk h5'
            have R5 := Aside0.mk r5
            have M5 := Aside0.mk (h_map_keep O4.out r5 M4.out HW.out)
            have B05 := Aside0.mk (B04.out.trans (O4.out.step r5))
            clear h5' r5
            go_wp2_with fail
            go_roundg k1
            case measure => have := HK.out; omega
            case rel =>
              refine ⟨i + 1, by go_num, ⟨by omega⟩, ⟨pre ++ ([44, 32] ++ s), r, v5, HRR.out, ?_, by simpa using O5.out, R3.out.trans ((OutR.of_below BY.out).trans (R4.out.trans R5.out)), M5.out, B05.out⟩, ⟨by have := HK.out; omega⟩⟩
              have e1 := HPR.out
              have e2 := HRE.out
              rw [← e1, ← e2]
              simp [c6]
          · have c6b : decide (0 < i) = false := decide_eq_false c6
            have i00 : i = 0 := by omega
            have I00 := Aside0.mk i00
            clear i00
            go_wp2_with fail
            clear p0 p1 p2 p3 p4
            refine (IH.out k1 (by have := HK.out; omega) _ _ _ _ _ _ _ _ s w0 _ g mb v3 om _ B0Y.out OY.out MY.out HW.out G5.out q5 HS.out (by have := HL.out; have e1 := HPR.out; have e2 := HRE.out; rw [← e1, ← e2] at this; simp [c6] at this ⊢; omega)).mono ?_
            rintro e w5 ⟨rfl, v5, h5', r5⟩
            have O5 := Aside0.mk h5'
            have R5 := Aside0.mk r5
            have M5 := Aside0.mk (h_map_keep OY.out r5 MY.out HW.out)
            have B05 := Aside0.mk (B0Y.out.trans (OY.out.step r5))
            clear h5' r5
            go_wp2_with fail
            go_roundg k1
            case measure => have := HK.out; omega
            case rel =>
              refine ⟨i + 1, by go_num, ⟨by omega⟩, ⟨pre ++ s, r, v5, HRR.out, ?_, by simpa using O5.out, R3.out.trans ((OutR.of_below BY.out).trans R5.out), M5.out, B05.out⟩, ⟨by have := HK.out; omega⟩⟩
              have e1 := HPR.out
              have e2 := HRE.out
              rw [← e1, ← e2]
              simp [c6]
        · rw [if_neg c5] at hl
          obtain rfl := Option.some.inj hl
          have c5b : decide (i < (l4.length : Int)) = false := decide_eq_false c5
          have HPR := Aside0.mk hpr
          have O3 := Aside0.mk h3'
          have R3 := Aside0.mk r3
          clear hl hpr h3' r3 m3 b03 HA
          go_wp2_with fail
          refine (h_put_new w0.heap.size g mb v3 _ [⟨#[41]⟩] _ 1 _ O3.out rfl rfl (by have := HL.out; have e1 := HPR.out; rw [← e1] at this; simp at this ⊢; omega) (by simp)).mono ?_
          rintro e w4 ⟨rfl, v4, h4', r4⟩
          have O4 := Aside0.mk h4'
          have R4 := Aside0.mk r4
          clear h4' r4
          go_wp2_with fail
          refine h_expr_end ⟨rfl, v4, ?_, (OutR.of_below B1.out).trans (R2.out.trans (R3.out.trans R4.out))⟩
          have := O4.out
          rw [← HPR.out]
          simpa using this

-- IMPORT Derived.Outline
theorem h_expr_all : ∀ k, ExprSaid k := by
  intro k
  induction k using Nat.strongRecOn with
  | _ k ih =>
  intro a0 a1 a2 a3 A4 c4 l4 least t w0 w g mb v om l hB h hm hw hr hc hf hlen
  cases k with
  | zero => exact absurd hf (by simp [printer_expr.f])
  | succ k =>
  simp only [printer_expr.f] at hf
  by_cases hk : 0 ≤ a0 ∧ a0 < 256
  case neg => rw [if_neg hk] at hf; cases hf
  rw [if_pos hk] at hf
  by_cases c1 : 4 ≤ a0 ∧ a0 ≤ 6
  · rw [if_pos c1] at hf
    by_cases c2 : 2 ≤ l4.length
    case neg => rw [if_neg c2] at hf; cases hf
    rw [if_pos c2] at hf
    obtain ⟨s, hs, hf2⟩ := Option.bind_eq_some_iff.mp hf
    obtain ⟨u, hu, hf3⟩ := Option.bind_eq_some_iff.mp hf2
    clear hf hf2
    obtain rfl := Option.some.inj hf3
    by_cases c3 : ownOf a0 < least
    · rw [if_pos c3] at hlen ⊢
      exact h_expr_paren k (ih k (by omega)) a0 a1 a2 a3 A4 c4 l4 least s u w0 w g mb v om l hB h hm hw hr hc c1 c2 hs hu c3 hlen
    · rw [if_neg c3] at hlen ⊢
      exact h_expr_ops k (ih k (by omega)) a0 a1 a2 a3 A4 c4 l4 least s u w0 w g mb v om l hB h hm hw hr hc c1 c2 hs hu c3 hlen
  · rw [if_neg c1] at hf
    by_cases c2 : 2 < least
    · rw [if_pos c2] at hf; cases hf
    rw [if_neg c2] at hf
    by_cases n1 : a0 = 1
    · rw [if_pos n1] at hf
      obtain rfl := Option.some.inj hf
      subst n1
      exact h_expr_const a1 a2 a3 A4 c4 l4 least w _ g mb v l h c2 (by simpa using hlen)
    rw [if_neg n1] at hf
    by_cases n2 : a0 = 2
    · rw [if_pos n2] at hf
      obtain ⟨n, hn, hf2⟩ := Option.bind_eq_some_iff.mp hf
      obtain ⟨d, hd, hf3⟩ := Option.bind_eq_some_iff.mp hf2
      obtain rfl := Option.some.inj hf3
      subst n2
      exact h_expr_fix k a1 a2 a3 A4 c4 l4 least n d w _ g mb v l h c2 hn hd hlen
    rw [if_neg n2] at hf
    by_cases n3 : a0 = 3
    · rw [if_pos n3] at hf
      obtain ⟨n, hn, hf2⟩ := Option.bind_eq_some_iff.mp hf
      obtain rfl := Option.some.inj hf2
      subst n3
      exact h_expr_now k a1 a2 a3 A4 c4 l4 least n w _ g mb v l h c2 hn hlen
    rw [if_neg n3] at hf
    obtain ⟨s, hs, hf2⟩ := Option.bind_eq_some_iff.mp hf
    obtain rfl := Option.some.inj hf2
    exact h_expr_list k (fun m hm => ih m (by omega)) a0 a1 a2 a3 A4 c4 l4 least s w0 w g mb v om l hB h hm hw hr hc hk.1 hk.2 c1 n1 n2 n3 c2 hs hlen

end Go.Proofs.YtalaekadkjhldaaDoor.Pr
