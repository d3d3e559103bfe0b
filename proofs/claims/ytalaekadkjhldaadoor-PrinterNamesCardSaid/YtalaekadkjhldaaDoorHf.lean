/- A part of the proof of the statement PrinterNames (the printer's examples, further texts and errors): contracts of functions of the program, proved by walking their text. -/
import Derived.Test.YtalaekadkjhldaaDoorPn0
import Derived.Test.YtalaekadkjhldaaDoorPn1
import Derived.Test.YtalaekadkjhldaaDoorPn2
import Derived.Test.YtalaekadkjhldaaDoorPn3
import Derived.Test.YtalaekadkjhldaaDoorPn4
import Derived.Test.YtalaekadkjhldaaDoorPn5
import Derived.Test.YtalaekadkjhldaaDoorPn6
import Derived.Outline
import Derived.Deep.RegionWith
import Derived.Laws.EntriesVeiled
import Derived.Test.YtalaekadkjhldaaDoorShelf
import Derived.Test.YtalaekadkjhldaaDoorHa
import Derived.Test.YtalaekadkjhldaaDoorHb
import Derived.Test.YtalaekadkjhldaaDoorHe
namespace Go.Proofs.YtalaekadkjhldaaDoor.Pr
open Go.RowKit Go.Proofs.YtalaekadkjhldaaDoorW.PrintWords Go.Proofs.YtalaekadkjhldaaDoorW.PrintLast Go.Proofs.YtalaekadkjhldaaDoorW.PrintMore
attribute [local go_sem] max2_int min2_int max_two min_two max_three min_three max_four min_four
set_option linter.unusedVariables false
set_option linter.unusedSimpArgs false
-- IMPORT Derived.Outline Derived.Deep.RegionWith Derived.Laws.EntriesVeiled
set_option maxHeartbeats 4000000 in
set_option maxRecDepth 100000 in
theorem h_node_1 (k : Nat) (f1 f2 f3 : ByteArray) (e0 : Int) (e1 e2 : ByteArray) (e3 : Int) (A8 : Option Addr) (c8 : Nat) (l8 : List S25) (d : Int) (A10 : Option Addr) (c10 : Nat) (ds : List Int) (A11 : Option Addr) (c11 : Nat) (subs : List S29) (r : Bool) (w : World)
    (hG : ShG w) (hP : PtG w) (hr8 : Kd.C k25 w A8 l8.length l8) (hc8 : l8.length ≤ c8) (hr10 : Kd.C (Kd.int .i64) w A10 ds.length ds) (hc10 : ds.length ≤ c10) (hsub : subs.length ≤ 9223372036854775807) (h : contract_node.f k 1 f1 f2 f3 e0 e1 e2 e3 l8 d ds subs = some r) :
    Calls Tryd.prog 30 #[.agg #[.int .u8 1, .string f1, .string f2, .string f3, .int .u8 e0, .string e1, .string e2, .int .i64 e3, .slice A8 l8.length c8, .int .i64 d, .slice A10 ds.length c10, .slice A11 subs.length c11]] w fun e w' => e = .returned (.bool r) ∧ Below w.heap.size w w' := by
  have hmf : ∀ (fn : Fn) (first cap : Array Value) (w : World), (Instr.makeFunc fn first cap).run Tryd.prog w = .ok (.func fn first cap) w := fun _ _ _ _ => rfl
  have HG := Aside0.mk hG
  have HR8 := Aside0.mk hr8
  have HR10 := Aside0.mk hr10
  have BB := Aside0.mk (below_alloc (Below.refl w.heap.size w) (.cells #[.int .u8 1, .string f1, .string f2, .string f3, .int .u8 e0, .string e1, .string e2, .int .i64 e3, .slice A8 l8.length c8, .int .i64 d, .slice A10 ds.length c10, .slice A11 subs.length c11] 29))
  have kk := blk_new w (.cells #[.int .u8 1, .string f1, .string f2, .string f3, .int .u8 e0, .string e1, .string e2, .int .i64 e3, .slice A8 l8.length c8, .int .i64 d, .slice A10 ds.length c10, .slice A11 subs.length c11] 29)
  obtain ⟨x0, x1, x2, x3, x4, x5, x6, x7, x8, x9, x10, x11⟩ := h_box12 kk
  obtain ⟨mb, hpc, lk⟩ := (hP.below BB.out).out
  have lk2 : (Instr.lookup 81 (.map (some mb)) (.int .u8 1) true).run Tryd.prog _ = .ok (.tuple #[.int .i64 0, .bool true]) _ := lk 1 (by decide) (by decide) _ (Below.refl _ _)
  obtain ⟨b_0, k0_0, k1_0, k2_0⟩ := h_three w (.cells #[.int .u8 1, .string f1, .string f2, .string f3, .int .u8 e0, .string e1, .string e2, .int .i64 e3, .slice A8 l8.length c8, .int .i64 d, .slice A10 ds.length c10, .slice A11 subs.length c11] 29) (.int .i64 0) (.func (.func 47) #[] #[.pointer (some ⟨w.heap.size + 1, 0, none⟩)]) 3 82
  have B_0 := Aside0.mk b_0
  have K0_0 := Aside0.mk k0_0
  have K1_0 := Aside0.mk k1_0
  have K2_0 := Aside0.mk k2_0
  clear lk hP hG hr8 hr10 kk b_0 k0_0 k1_0 k2_0
  simp only [contract_node.f] at h
  rw [if_pos ⟨by decide, by decide⟩, if_pos (by decide)] at h
  obtain ⟨t1, ht1, h1⟩ := Option.bind_eq_some_iff.mp h
  have HT1 : Aside0 (wordF k 0 1 f1 = some t1) := ⟨ht1⟩
  clear h ht1
  cases t1
  case false =>
    rw [if_pos rfl] at h1
    obtain rfl := Option.some.inj h1
    go_enter Tryd.func30, Tryd.ntmps30
    go_wp2_with fail
    obtain ⟨x0, x1, x2, x3, x4, x5, x6, x7, x8, x9, x10, x11⟩ := h_box12 K0_0.out; have hp := (blk_cell K1_0.out 0).trans (show #[_][0]? = _ from rfl); have hf := (blk_cell K2_0.out 0).trans (show #[_][0]? = _ from rfl)
    go_wp2_with (first
      | (go_at_call 48; refine (h_node2 k 0 1 _ _ _ false _ hp hf HT1.out).mono ?_; clear HT1; rintro e w' ⟨rfl, hb⟩; have B_1 := Aside0.mk (below_step B_0.out hb); have K0_1 := Aside0.mk (blk_below K0_0.out hb); have K1_1 := Aside0.mk (blk_below K1_0.out hb); have K2_1 := Aside0.mk (blk_below K2_0.out hb); clear x0 x1 x2 x3 x4 x5 x6 x7 x8 x9 x10 x11 hp hf; obtain ⟨x0, x1, x2, x3, x4, x5, x6, x7, x8, x9, x10, x11⟩ := h_box12 K0_1.out; have hp := (blk_cell K1_1.out 0).trans (show #[_][0]? = _ from rfl); have hf := (blk_cell K2_1.out 0).trans (show #[_][0]? = _ from rfl); clear hb)
      | (go_at_call 47; (first | refine (h_node1 0 _ _ true _ hp (by decide)).mono ?_ | refine (h_node1 0 _ _ false _ hp (by decide)).mono ?_); rintro e w' ⟨rfl, rfl⟩))
    go_ret
    exact ⟨rfl, B_1.out⟩
  rw [if_neg (by decide)] at h1
  obtain ⟨t2, ht2, h2⟩ := Option.bind_eq_some_iff.mp h1
  have HT2 : Aside0 (wordF k 0 2 f2 = some t2) := ⟨ht2⟩
  clear h1 ht2
  cases t2
  case false =>
    rw [if_pos rfl] at h2
    obtain rfl := Option.some.inj h2
    go_enter Tryd.func30, Tryd.ntmps30
    go_wp2_with fail
    obtain ⟨x0, x1, x2, x3, x4, x5, x6, x7, x8, x9, x10, x11⟩ := h_box12 K0_0.out; have hp := (blk_cell K1_0.out 0).trans (show #[_][0]? = _ from rfl); have hf := (blk_cell K2_0.out 0).trans (show #[_][0]? = _ from rfl)
    go_wp2_with (first
      | (go_at_call 48; refine (h_node2 k 0 1 _ _ _ true _ hp hf HT1.out).mono ?_; clear HT1; rintro e w' ⟨rfl, hb⟩; have B_1 := Aside0.mk (below_step B_0.out hb); have K0_1 := Aside0.mk (blk_below K0_0.out hb); have K1_1 := Aside0.mk (blk_below K1_0.out hb); have K2_1 := Aside0.mk (blk_below K2_0.out hb); clear x0 x1 x2 x3 x4 x5 x6 x7 x8 x9 x10 x11 hp hf; obtain ⟨x0, x1, x2, x3, x4, x5, x6, x7, x8, x9, x10, x11⟩ := h_box12 K0_1.out; have hp := (blk_cell K1_1.out 0).trans (show #[_][0]? = _ from rfl); have hf := (blk_cell K2_1.out 0).trans (show #[_][0]? = _ from rfl); clear hb)
      | (go_at_call 48; refine (h_node2 k 0 2 _ _ _ false _ hp hf HT2.out).mono ?_; clear HT2; rintro e w' ⟨rfl, hb⟩; have B_2 := Aside0.mk (below_step B_1.out hb); have K0_2 := Aside0.mk (blk_below K0_1.out hb); have K1_2 := Aside0.mk (blk_below K1_1.out hb); have K2_2 := Aside0.mk (blk_below K2_1.out hb); clear x0 x1 x2 x3 x4 x5 x6 x7 x8 x9 x10 x11 hp hf; obtain ⟨x0, x1, x2, x3, x4, x5, x6, x7, x8, x9, x10, x11⟩ := h_box12 K0_2.out; have hp := (blk_cell K1_2.out 0).trans (show #[_][0]? = _ from rfl); have hf := (blk_cell K2_2.out 0).trans (show #[_][0]? = _ from rfl); clear hb)
      | (go_at_call 47; (first | refine (h_node1 0 _ _ true _ hp (by decide)).mono ?_ | refine (h_node1 0 _ _ false _ hp (by decide)).mono ?_); rintro e w' ⟨rfl, rfl⟩))
    go_ret
    exact ⟨rfl, B_2.out⟩
  rw [if_neg (by decide)] at h2
  obtain ⟨t3, ht3, h3⟩ := Option.bind_eq_some_iff.mp h2
  have HT3 : Aside0 (wordF k 0 4 f3 = some t3) := ⟨ht3⟩
  clear h2 ht3
  cases t3
  case false =>
    rw [if_pos rfl] at h3
    obtain rfl := Option.some.inj h3
    go_enter Tryd.func30, Tryd.ntmps30
    go_wp2_with fail
    obtain ⟨x0, x1, x2, x3, x4, x5, x6, x7, x8, x9, x10, x11⟩ := h_box12 K0_0.out; have hp := (blk_cell K1_0.out 0).trans (show #[_][0]? = _ from rfl); have hf := (blk_cell K2_0.out 0).trans (show #[_][0]? = _ from rfl)
    go_wp2_with (first
      | (go_at_call 48; refine (h_node2 k 0 1 _ _ _ true _ hp hf HT1.out).mono ?_; clear HT1; rintro e w' ⟨rfl, hb⟩; have B_1 := Aside0.mk (below_step B_0.out hb); have K0_1 := Aside0.mk (blk_below K0_0.out hb); have K1_1 := Aside0.mk (blk_below K1_0.out hb); have K2_1 := Aside0.mk (blk_below K2_0.out hb); clear x0 x1 x2 x3 x4 x5 x6 x7 x8 x9 x10 x11 hp hf; obtain ⟨x0, x1, x2, x3, x4, x5, x6, x7, x8, x9, x10, x11⟩ := h_box12 K0_1.out; have hp := (blk_cell K1_1.out 0).trans (show #[_][0]? = _ from rfl); have hf := (blk_cell K2_1.out 0).trans (show #[_][0]? = _ from rfl); clear hb)
      | (go_at_call 48; refine (h_node2 k 0 2 _ _ _ true _ hp hf HT2.out).mono ?_; clear HT2; rintro e w' ⟨rfl, hb⟩; have B_2 := Aside0.mk (below_step B_1.out hb); have K0_2 := Aside0.mk (blk_below K0_1.out hb); have K1_2 := Aside0.mk (blk_below K1_1.out hb); have K2_2 := Aside0.mk (blk_below K2_1.out hb); clear x0 x1 x2 x3 x4 x5 x6 x7 x8 x9 x10 x11 hp hf; obtain ⟨x0, x1, x2, x3, x4, x5, x6, x7, x8, x9, x10, x11⟩ := h_box12 K0_2.out; have hp := (blk_cell K1_2.out 0).trans (show #[_][0]? = _ from rfl); have hf := (blk_cell K2_2.out 0).trans (show #[_][0]? = _ from rfl); clear hb)
      | (go_at_call 48; refine (h_node2 k 0 4 _ _ _ false _ hp hf HT3.out).mono ?_; clear HT3; rintro e w' ⟨rfl, hb⟩; have B_3 := Aside0.mk (below_step B_2.out hb); have K0_3 := Aside0.mk (blk_below K0_2.out hb); have K1_3 := Aside0.mk (blk_below K1_2.out hb); have K2_3 := Aside0.mk (blk_below K2_2.out hb); clear x0 x1 x2 x3 x4 x5 x6 x7 x8 x9 x10 x11 hp hf; obtain ⟨x0, x1, x2, x3, x4, x5, x6, x7, x8, x9, x10, x11⟩ := h_box12 K0_3.out; have hp := (blk_cell K1_3.out 0).trans (show #[_][0]? = _ from rfl); have hf := (blk_cell K2_3.out 0).trans (show #[_][0]? = _ from rfl); clear hb)
      | (go_at_call 47; (first | refine (h_node1 0 _ _ true _ hp (by decide)).mono ?_ | refine (h_node1 0 _ _ false _ hp (by decide)).mono ?_); rintro e w' ⟨rfl, rfl⟩))
    go_ret
    exact ⟨rfl, B_3.out⟩
  rw [if_neg (by decide)] at h3
  rw [if_neg (fun e => absurd e.1 (by decide))] at h3
  rw [if_neg (by decide), if_neg (by decide)] at h3
  obtain ⟨ok, hok, h4⟩ := Option.bind_eq_some_iff.mp h3
  have HOK := Aside0.mk hok
  clear h3 hok
  rw [if_neg (by decide)] at h4
  have h5 := h4
  clear h4
  simp only [Option.bind_some] at h5
  rw [if_neg (by decide)] at h5
  have h6 := h5
  clear h5
  simp only [Option.bind_some] at h6
  rw [if_neg (by decide), if_neg (by decide)] at h6
  obtain rfl := Option.some.inj h6
  clear h6
  go_enter Tryd.func30, Tryd.ntmps30
  go_wp2_with fail
  obtain ⟨x0, x1, x2, x3, x4, x5, x6, x7, x8, x9, x10, x11⟩ := h_box12 K0_0.out; have hp := (blk_cell K1_0.out 0).trans (show #[_][0]? = _ from rfl); have hf := (blk_cell K2_0.out 0).trans (show #[_][0]? = _ from rfl)
  go_wp2_with (first
    | (go_at_call 48; refine (h_node2 k 0 1 _ _ _ true _ hp hf HT1.out).mono ?_; clear HT1; rintro e w' ⟨rfl, hb⟩; have B_1 := Aside0.mk (below_step B_0.out hb); have K0_1 := Aside0.mk (blk_below K0_0.out hb); have K1_1 := Aside0.mk (blk_below K1_0.out hb); have K2_1 := Aside0.mk (blk_below K2_0.out hb); clear x0 x1 x2 x3 x4 x5 x6 x7 x8 x9 x10 x11 hp hf; obtain ⟨x0, x1, x2, x3, x4, x5, x6, x7, x8, x9, x10, x11⟩ := h_box12 K0_1.out; have hp := (blk_cell K1_1.out 0).trans (show #[_][0]? = _ from rfl); have hf := (blk_cell K2_1.out 0).trans (show #[_][0]? = _ from rfl); clear hb)
    | (go_at_call 48; refine (h_node2 k 0 2 _ _ _ true _ hp hf HT2.out).mono ?_; clear HT2; rintro e w' ⟨rfl, hb⟩; have B_2 := Aside0.mk (below_step B_1.out hb); have K0_2 := Aside0.mk (blk_below K0_1.out hb); have K1_2 := Aside0.mk (blk_below K1_1.out hb); have K2_2 := Aside0.mk (blk_below K2_1.out hb); clear x0 x1 x2 x3 x4 x5 x6 x7 x8 x9 x10 x11 hp hf; obtain ⟨x0, x1, x2, x3, x4, x5, x6, x7, x8, x9, x10, x11⟩ := h_box12 K0_2.out; have hp := (blk_cell K1_2.out 0).trans (show #[_][0]? = _ from rfl); have hf := (blk_cell K2_2.out 0).trans (show #[_][0]? = _ from rfl); clear hb)
    | (go_at_call 48; refine (h_node2 k 0 4 _ _ _ true _ hp hf HT3.out).mono ?_; clear HT3; rintro e w' ⟨rfl, hb⟩; have B_3 := Aside0.mk (below_step B_2.out hb); have K0_3 := Aside0.mk (blk_below K0_2.out hb); have K1_3 := Aside0.mk (blk_below K1_2.out hb); have K2_3 := Aside0.mk (blk_below K2_2.out hb); clear x0 x1 x2 x3 x4 x5 x6 x7 x8 x9 x10 x11 hp hf; obtain ⟨x0, x1, x2, x3, x4, x5, x6, x7, x8, x9, x10, x11⟩ := h_box12 K0_3.out; have hp := (blk_cell K1_3.out 0).trans (show #[_][0]? = _ from rfl); have hf := (blk_cell K2_3.out 0).trans (show #[_][0]? = _ from rfl); clear hb)
    | (go_at_call 47; (first | refine (h_node1 0 _ _ true _ hp (by decide)).mono ?_ | refine (h_node1 0 _ _ false _ hp (by decide)).mono ?_); rintro e w' ⟨rfl, rfl⟩)
    | (go_at_call 43; refine (contract_bare.calls _ _ _ _ _ _ _ ok _ (Kd.C_below HR8.out B_3.out) hc8 HOK.out).mono ?_; clear HOK; rintro e w' ⟨rfl, hb⟩; have B_4 := Aside0.mk (below_step B_3.out hb); have K0_4 := Aside0.mk (blk_below K0_3.out hb); have K1_4 := Aside0.mk (blk_below K1_3.out hb); have K2_4 := Aside0.mk (blk_below K2_3.out hb); clear x0 x1 x2 x3 x4 x5 x6 x7 x8 x9 x10 x11 hp hf; obtain ⟨x0, x1, x2, x3, x4, x5, x6, x7, x8, x9, x10, x11⟩ := h_box12 K0_4.out; have hp := (blk_cell K1_4.out 0).trans (show #[_][0]? = _ from rfl); have hf := (blk_cell K2_4.out 0).trans (show #[_][0]? = _ from rfl); clear hb))
  all_goals
    go_ret
    refine ⟨?_, B_4.out⟩
    first
      | rfl
      | (refine congrArg Ending.returned (congrArg Value.bool ?_); simp [*]; done)

-- IMPORT Derived.Outline Derived.Deep.RegionWith Derived.Laws.EntriesVeiled
set_option maxHeartbeats 4000000 in
set_option maxRecDepth 100000 in
theorem h_node_2 (k : Nat) (f1 f2 f3 : ByteArray) (e0 : Int) (e1 e2 : ByteArray) (e3 : Int) (A8 : Option Addr) (c8 : Nat) (l8 : List S25) (d : Int) (A10 : Option Addr) (c10 : Nat) (ds : List Int) (A11 : Option Addr) (c11 : Nat) (subs : List S29) (r : Bool) (w : World)
    (hG : ShG w) (hP : PtG w) (hr8 : Kd.C k25 w A8 l8.length l8) (hc8 : l8.length ≤ c8) (hr10 : Kd.C (Kd.int .i64) w A10 ds.length ds) (hc10 : ds.length ≤ c10) (hsub : subs.length ≤ 9223372036854775807) (h : contract_node.f k 2 f1 f2 f3 e0 e1 e2 e3 l8 d ds subs = some r) :
    Calls Tryd.prog 30 #[.agg #[.int .u8 2, .string f1, .string f2, .string f3, .int .u8 e0, .string e1, .string e2, .int .i64 e3, .slice A8 l8.length c8, .int .i64 d, .slice A10 ds.length c10, .slice A11 subs.length c11]] w fun e w' => e = .returned (.bool r) ∧ Below w.heap.size w w' := by
  have hmf : ∀ (fn : Fn) (first cap : Array Value) (w : World), (Instr.makeFunc fn first cap).run Tryd.prog w = .ok (.func fn first cap) w := fun _ _ _ _ => rfl
  have HG := Aside0.mk hG
  have HR8 := Aside0.mk hr8
  have HR10 := Aside0.mk hr10
  have BB := Aside0.mk (below_alloc (Below.refl w.heap.size w) (.cells #[.int .u8 2, .string f1, .string f2, .string f3, .int .u8 e0, .string e1, .string e2, .int .i64 e3, .slice A8 l8.length c8, .int .i64 d, .slice A10 ds.length c10, .slice A11 subs.length c11] 29))
  have kk := blk_new w (.cells #[.int .u8 2, .string f1, .string f2, .string f3, .int .u8 e0, .string e1, .string e2, .int .i64 e3, .slice A8 l8.length c8, .int .i64 d, .slice A10 ds.length c10, .slice A11 subs.length c11] 29)
  obtain ⟨x0, x1, x2, x3, x4, x5, x6, x7, x8, x9, x10, x11⟩ := h_box12 kk
  obtain ⟨mb, hpc, lk⟩ := (hP.below BB.out).out
  have lk2 : (Instr.lookup 81 (.map (some mb)) (.int .u8 2) true).run Tryd.prog _ = .ok (.tuple #[.int .i64 15, .bool true]) _ := lk 2 (by decide) (by decide) _ (Below.refl _ _)
  obtain ⟨b_0, k0_0, k1_0, k2_0⟩ := h_three w (.cells #[.int .u8 2, .string f1, .string f2, .string f3, .int .u8 e0, .string e1, .string e2, .int .i64 e3, .slice A8 l8.length c8, .int .i64 d, .slice A10 ds.length c10, .slice A11 subs.length c11] 29) (.int .i64 15) (.func (.func 47) #[] #[.pointer (some ⟨w.heap.size + 1, 0, none⟩)]) 3 82
  have B_0 := Aside0.mk b_0
  have K0_0 := Aside0.mk k0_0
  have K1_0 := Aside0.mk k1_0
  have K2_0 := Aside0.mk k2_0
  clear lk hP hG hr8 hr10 kk b_0 k0_0 k1_0 k2_0
  simp only [contract_node.f] at h
  rw [if_pos ⟨by decide, by decide⟩, if_pos (by decide)] at h
  obtain ⟨t1, ht1, h1⟩ := Option.bind_eq_some_iff.mp h
  have HT1 : Aside0 (wordF k 15 1 f1 = some t1) := ⟨ht1⟩
  clear h ht1
  cases t1
  case false =>
    rw [if_pos rfl] at h1
    obtain rfl := Option.some.inj h1
    go_enter Tryd.func30, Tryd.ntmps30
    go_wp2_with fail
    obtain ⟨x0, x1, x2, x3, x4, x5, x6, x7, x8, x9, x10, x11⟩ := h_box12 K0_0.out; have hp := (blk_cell K1_0.out 0).trans (show #[_][0]? = _ from rfl); have hf := (blk_cell K2_0.out 0).trans (show #[_][0]? = _ from rfl)
    go_wp2_with (first
      | (go_at_call 48; refine (h_node2 k 15 1 _ _ _ false _ hp hf HT1.out).mono ?_; clear HT1; rintro e w' ⟨rfl, hb⟩; have B_1 := Aside0.mk (below_step B_0.out hb); have K0_1 := Aside0.mk (blk_below K0_0.out hb); have K1_1 := Aside0.mk (blk_below K1_0.out hb); have K2_1 := Aside0.mk (blk_below K2_0.out hb); clear x0 x1 x2 x3 x4 x5 x6 x7 x8 x9 x10 x11 hp hf; obtain ⟨x0, x1, x2, x3, x4, x5, x6, x7, x8, x9, x10, x11⟩ := h_box12 K0_1.out; have hp := (blk_cell K1_1.out 0).trans (show #[_][0]? = _ from rfl); have hf := (blk_cell K2_1.out 0).trans (show #[_][0]? = _ from rfl); clear hb)
      | (go_at_call 47; (first | refine (h_node1 15 _ _ true _ hp (by decide)).mono ?_ | refine (h_node1 15 _ _ false _ hp (by decide)).mono ?_); rintro e w' ⟨rfl, rfl⟩))
    go_ret
    exact ⟨rfl, B_1.out⟩
  rw [if_neg (by decide)] at h1
  obtain ⟨t2, ht2, h2⟩ := Option.bind_eq_some_iff.mp h1
  have HT2 : Aside0 (wordF k 15 2 f2 = some t2) := ⟨ht2⟩
  clear h1 ht2
  cases t2
  case false =>
    rw [if_pos rfl] at h2
    obtain rfl := Option.some.inj h2
    go_enter Tryd.func30, Tryd.ntmps30
    go_wp2_with fail
    obtain ⟨x0, x1, x2, x3, x4, x5, x6, x7, x8, x9, x10, x11⟩ := h_box12 K0_0.out; have hp := (blk_cell K1_0.out 0).trans (show #[_][0]? = _ from rfl); have hf := (blk_cell K2_0.out 0).trans (show #[_][0]? = _ from rfl)
    go_wp2_with (first
      | (go_at_call 48; refine (h_node2 k 15 1 _ _ _ true _ hp hf HT1.out).mono ?_; clear HT1; rintro e w' ⟨rfl, hb⟩; have B_1 := Aside0.mk (below_step B_0.out hb); have K0_1 := Aside0.mk (blk_below K0_0.out hb); have K1_1 := Aside0.mk (blk_below K1_0.out hb); have K2_1 := Aside0.mk (blk_below K2_0.out hb); clear x0 x1 x2 x3 x4 x5 x6 x7 x8 x9 x10 x11 hp hf; obtain ⟨x0, x1, x2, x3, x4, x5, x6, x7, x8, x9, x10, x11⟩ := h_box12 K0_1.out; have hp := (blk_cell K1_1.out 0).trans (show #[_][0]? = _ from rfl); have hf := (blk_cell K2_1.out 0).trans (show #[_][0]? = _ from rfl); clear hb)
      | (go_at_call 48; refine (h_node2 k 15 2 _ _ _ false _ hp hf HT2.out).mono ?_; clear HT2; rintro e w' ⟨rfl, hb⟩; have B_2 := Aside0.mk (below_step B_1.out hb); have K0_2 := Aside0.mk (blk_below K0_1.out hb); have K1_2 := Aside0.mk (blk_below K1_1.out hb); have K2_2 := Aside0.mk (blk_below K2_1.out hb); clear x0 x1 x2 x3 x4 x5 x6 x7 x8 x9 x10 x11 hp hf; obtain ⟨x0, x1, x2, x3, x4, x5, x6, x7, x8, x9, x10, x11⟩ := h_box12 K0_2.out; have hp := (blk_cell K1_2.out 0).trans (show #[_][0]? = _ from rfl); have hf := (blk_cell K2_2.out 0).trans (show #[_][0]? = _ from rfl); clear hb)
      | (go_at_call 47; (first | refine (h_node1 15 _ _ true _ hp (by decide)).mono ?_ | refine (h_node1 15 _ _ false _ hp (by decide)).mono ?_); rintro e w' ⟨rfl, rfl⟩))
    go_ret
    exact ⟨rfl, B_2.out⟩
  rw [if_neg (by decide)] at h2
  obtain ⟨t3, ht3, h3⟩ := Option.bind_eq_some_iff.mp h2
  have HT3 : Aside0 (wordF k 15 4 f3 = some t3) := ⟨ht3⟩
  clear h2 ht3
  cases t3
  case false =>
    rw [if_pos rfl] at h3
    obtain rfl := Option.some.inj h3
    go_enter Tryd.func30, Tryd.ntmps30
    go_wp2_with fail
    obtain ⟨x0, x1, x2, x3, x4, x5, x6, x7, x8, x9, x10, x11⟩ := h_box12 K0_0.out; have hp := (blk_cell K1_0.out 0).trans (show #[_][0]? = _ from rfl); have hf := (blk_cell K2_0.out 0).trans (show #[_][0]? = _ from rfl)
    go_wp2_with (first
      | (go_at_call 48; refine (h_node2 k 15 1 _ _ _ true _ hp hf HT1.out).mono ?_; clear HT1; rintro e w' ⟨rfl, hb⟩; have B_1 := Aside0.mk (below_step B_0.out hb); have K0_1 := Aside0.mk (blk_below K0_0.out hb); have K1_1 := Aside0.mk (blk_below K1_0.out hb); have K2_1 := Aside0.mk (blk_below K2_0.out hb); clear x0 x1 x2 x3 x4 x5 x6 x7 x8 x9 x10 x11 hp hf; obtain ⟨x0, x1, x2, x3, x4, x5, x6, x7, x8, x9, x10, x11⟩ := h_box12 K0_1.out; have hp := (blk_cell K1_1.out 0).trans (show #[_][0]? = _ from rfl); have hf := (blk_cell K2_1.out 0).trans (show #[_][0]? = _ from rfl); clear hb)
      | (go_at_call 48; refine (h_node2 k 15 2 _ _ _ true _ hp hf HT2.out).mono ?_; clear HT2; rintro e w' ⟨rfl, hb⟩; have B_2 := Aside0.mk (below_step B_1.out hb); have K0_2 := Aside0.mk (blk_below K0_1.out hb); have K1_2 := Aside0.mk (blk_below K1_1.out hb); have K2_2 := Aside0.mk (blk_below K2_1.out hb); clear x0 x1 x2 x3 x4 x5 x6 x7 x8 x9 x10 x11 hp hf; obtain ⟨x0, x1, x2, x3, x4, x5, x6, x7, x8, x9, x10, x11⟩ := h_box12 K0_2.out; have hp := (blk_cell K1_2.out 0).trans (show #[_][0]? = _ from rfl); have hf := (blk_cell K2_2.out 0).trans (show #[_][0]? = _ from rfl); clear hb)
      | (go_at_call 48; refine (h_node2 k 15 4 _ _ _ false _ hp hf HT3.out).mono ?_; clear HT3; rintro e w' ⟨rfl, hb⟩; have B_3 := Aside0.mk (below_step B_2.out hb); have K0_3 := Aside0.mk (blk_below K0_2.out hb); have K1_3 := Aside0.mk (blk_below K1_2.out hb); have K2_3 := Aside0.mk (blk_below K2_2.out hb); clear x0 x1 x2 x3 x4 x5 x6 x7 x8 x9 x10 x11 hp hf; obtain ⟨x0, x1, x2, x3, x4, x5, x6, x7, x8, x9, x10, x11⟩ := h_box12 K0_3.out; have hp := (blk_cell K1_3.out 0).trans (show #[_][0]? = _ from rfl); have hf := (blk_cell K2_3.out 0).trans (show #[_][0]? = _ from rfl); clear hb)
      | (go_at_call 47; (first | refine (h_node1 15 _ _ true _ hp (by decide)).mono ?_ | refine (h_node1 15 _ _ false _ hp (by decide)).mono ?_); rintro e w' ⟨rfl, rfl⟩))
    go_ret
    exact ⟨rfl, B_3.out⟩
  rw [if_neg (by decide)] at h3
  by_cases ce : f1.toList = f2.toList
  case pos =>
    rw [if_pos ⟨by decide, ce⟩] at h3
    obtain rfl := Option.some.inj h3
    have ceb : (f1.toList == f2.toList) = true := beq_iff_eq.mpr ce
    go_enter Tryd.func30, Tryd.ntmps30
    go_wp2_with fail
    obtain ⟨x0, x1, x2, x3, x4, x5, x6, x7, x8, x9, x10, x11⟩ := h_box12 K0_0.out; have hp := (blk_cell K1_0.out 0).trans (show #[_][0]? = _ from rfl); have hf := (blk_cell K2_0.out 0).trans (show #[_][0]? = _ from rfl)
    go_wp2_with (first
      | (go_at_call 48; refine (h_node2 k 15 1 _ _ _ true _ hp hf HT1.out).mono ?_; clear HT1; rintro e w' ⟨rfl, hb⟩; have B_1 := Aside0.mk (below_step B_0.out hb); have K0_1 := Aside0.mk (blk_below K0_0.out hb); have K1_1 := Aside0.mk (blk_below K1_0.out hb); have K2_1 := Aside0.mk (blk_below K2_0.out hb); clear x0 x1 x2 x3 x4 x5 x6 x7 x8 x9 x10 x11 hp hf; obtain ⟨x0, x1, x2, x3, x4, x5, x6, x7, x8, x9, x10, x11⟩ := h_box12 K0_1.out; have hp := (blk_cell K1_1.out 0).trans (show #[_][0]? = _ from rfl); have hf := (blk_cell K2_1.out 0).trans (show #[_][0]? = _ from rfl); clear hb)
      | (go_at_call 48; refine (h_node2 k 15 2 _ _ _ true _ hp hf HT2.out).mono ?_; clear HT2; rintro e w' ⟨rfl, hb⟩; have B_2 := Aside0.mk (below_step B_1.out hb); have K0_2 := Aside0.mk (blk_below K0_1.out hb); have K1_2 := Aside0.mk (blk_below K1_1.out hb); have K2_2 := Aside0.mk (blk_below K2_1.out hb); clear x0 x1 x2 x3 x4 x5 x6 x7 x8 x9 x10 x11 hp hf; obtain ⟨x0, x1, x2, x3, x4, x5, x6, x7, x8, x9, x10, x11⟩ := h_box12 K0_2.out; have hp := (blk_cell K1_2.out 0).trans (show #[_][0]? = _ from rfl); have hf := (blk_cell K2_2.out 0).trans (show #[_][0]? = _ from rfl); clear hb)
      | (go_at_call 48; refine (h_node2 k 15 4 _ _ _ true _ hp hf HT3.out).mono ?_; clear HT3; rintro e w' ⟨rfl, hb⟩; have B_3 := Aside0.mk (below_step B_2.out hb); have K0_3 := Aside0.mk (blk_below K0_2.out hb); have K1_3 := Aside0.mk (blk_below K1_2.out hb); have K2_3 := Aside0.mk (blk_below K2_2.out hb); clear x0 x1 x2 x3 x4 x5 x6 x7 x8 x9 x10 x11 hp hf; obtain ⟨x0, x1, x2, x3, x4, x5, x6, x7, x8, x9, x10, x11⟩ := h_box12 K0_3.out; have hp := (blk_cell K1_3.out 0).trans (show #[_][0]? = _ from rfl); have hf := (blk_cell K2_3.out 0).trans (show #[_][0]? = _ from rfl); clear hb)
      | (go_at_call 47; (first | refine (h_node1 15 _ _ true _ hp (by decide)).mono ?_ | refine (h_node1 15 _ _ false _ hp (by decide)).mono ?_); rintro e w' ⟨rfl, rfl⟩))
    go_ret
    exact ⟨rfl, B_3.out⟩
  rw [if_neg (fun e => ce e.2)] at h3
  have ceb : (f1.toList == f2.toList) = false := beq_eq_false_iff_ne.mpr ce
  rw [if_pos (by decide)] at h3
  obtain ⟨ok, hok, h4⟩ := Option.bind_eq_some_iff.mp h3
  have HOK := Aside0.mk hok
  clear h3 hok
  rw [if_neg (by decide)] at h4
  have h5 := h4
  clear h4
  simp only [Option.bind_some] at h5
  rw [if_neg (by decide)] at h5
  have h6 := h5
  clear h5
  simp only [Option.bind_some] at h6
  rw [if_neg (by decide), if_neg (by decide)] at h6
  obtain rfl := Option.some.inj h6
  clear h6
  go_enter Tryd.func30, Tryd.ntmps30
  go_wp2_with fail
  obtain ⟨x0, x1, x2, x3, x4, x5, x6, x7, x8, x9, x10, x11⟩ := h_box12 K0_0.out; have hp := (blk_cell K1_0.out 0).trans (show #[_][0]? = _ from rfl); have hf := (blk_cell K2_0.out 0).trans (show #[_][0]? = _ from rfl)
  go_wp2_with (first
    | (go_at_call 48; refine (h_node2 k 15 1 _ _ _ true _ hp hf HT1.out).mono ?_; clear HT1; rintro e w' ⟨rfl, hb⟩; have B_1 := Aside0.mk (below_step B_0.out hb); have K0_1 := Aside0.mk (blk_below K0_0.out hb); have K1_1 := Aside0.mk (blk_below K1_0.out hb); have K2_1 := Aside0.mk (blk_below K2_0.out hb); clear x0 x1 x2 x3 x4 x5 x6 x7 x8 x9 x10 x11 hp hf; obtain ⟨x0, x1, x2, x3, x4, x5, x6, x7, x8, x9, x10, x11⟩ := h_box12 K0_1.out; have hp := (blk_cell K1_1.out 0).trans (show #[_][0]? = _ from rfl); have hf := (blk_cell K2_1.out 0).trans (show #[_][0]? = _ from rfl); clear hb)
    | (go_at_call 48; refine (h_node2 k 15 2 _ _ _ true _ hp hf HT2.out).mono ?_; clear HT2; rintro e w' ⟨rfl, hb⟩; have B_2 := Aside0.mk (below_step B_1.out hb); have K0_2 := Aside0.mk (blk_below K0_1.out hb); have K1_2 := Aside0.mk (blk_below K1_1.out hb); have K2_2 := Aside0.mk (blk_below K2_1.out hb); clear x0 x1 x2 x3 x4 x5 x6 x7 x8 x9 x10 x11 hp hf; obtain ⟨x0, x1, x2, x3, x4, x5, x6, x7, x8, x9, x10, x11⟩ := h_box12 K0_2.out; have hp := (blk_cell K1_2.out 0).trans (show #[_][0]? = _ from rfl); have hf := (blk_cell K2_2.out 0).trans (show #[_][0]? = _ from rfl); clear hb)
    | (go_at_call 48; refine (h_node2 k 15 4 _ _ _ true _ hp hf HT3.out).mono ?_; clear HT3; rintro e w' ⟨rfl, hb⟩; have B_3 := Aside0.mk (below_step B_2.out hb); have K0_3 := Aside0.mk (blk_below K0_2.out hb); have K1_3 := Aside0.mk (blk_below K1_2.out hb); have K2_3 := Aside0.mk (blk_below K2_2.out hb); clear x0 x1 x2 x3 x4 x5 x6 x7 x8 x9 x10 x11 hp hf; obtain ⟨x0, x1, x2, x3, x4, x5, x6, x7, x8, x9, x10, x11⟩ := h_box12 K0_3.out; have hp := (blk_cell K1_3.out 0).trans (show #[_][0]? = _ from rfl); have hf := (blk_cell K2_3.out 0).trans (show #[_][0]? = _ from rfl); clear hb)
    | (go_at_call 47; (first | refine (h_node1 15 _ _ true _ hp (by decide)).mono ?_ | refine (h_node1 15 _ _ false _ hp (by decide)).mono ?_); rintro e w' ⟨rfl, rfl⟩)
    | (go_at_call 49; refine (observable_Number.calls k _ _ _ _ _ _ _ ok _ (HG.out.below B_3.out) (Kd.C_below HR8.out B_3.out) hc8 HOK.out).mono ?_; clear HOK; rintro e w' ⟨rfl, hb⟩; have B_4 := Aside0.mk (below_step B_3.out hb); have K0_4 := Aside0.mk (blk_below K0_3.out hb); have K1_4 := Aside0.mk (blk_below K1_3.out hb); have K2_4 := Aside0.mk (blk_below K2_3.out hb); clear x0 x1 x2 x3 x4 x5 x6 x7 x8 x9 x10 x11 hp hf; obtain ⟨x0, x1, x2, x3, x4, x5, x6, x7, x8, x9, x10, x11⟩ := h_box12 K0_4.out; have hp := (blk_cell K1_4.out 0).trans (show #[_][0]? = _ from rfl); have hf := (blk_cell K2_4.out 0).trans (show #[_][0]? = _ from rfl); clear hb))
  all_goals
    go_ret
    refine ⟨?_, B_4.out⟩
    first
      | rfl
      | (refine congrArg Ending.returned (congrArg Value.bool ?_); simp [*]; done)

-- IMPORT Derived.Outline Derived.Deep.RegionWith Derived.Laws.EntriesVeiled
set_option maxHeartbeats 4000000 in
set_option maxRecDepth 100000 in
theorem h_node_3 (k : Nat) (f1 f2 f3 : ByteArray) (e0 : Int) (e1 e2 : ByteArray) (e3 : Int) (A8 : Option Addr) (c8 : Nat) (l8 : List S25) (d : Int) (A10 : Option Addr) (c10 : Nat) (ds : List Int) (A11 : Option Addr) (c11 : Nat) (subs : List S29) (r : Bool) (w : World)
    (hG : ShG w) (hP : PtG w) (hr8 : Kd.C k25 w A8 l8.length l8) (hc8 : l8.length ≤ c8) (hr10 : Kd.C (Kd.int .i64) w A10 ds.length ds) (hc10 : ds.length ≤ c10) (hsub : subs.length ≤ 9223372036854775807) (h : contract_node.f k 3 f1 f2 f3 e0 e1 e2 e3 l8 d ds subs = some r) :
    Calls Tryd.prog 30 #[.agg #[.int .u8 3, .string f1, .string f2, .string f3, .int .u8 e0, .string e1, .string e2, .int .i64 e3, .slice A8 l8.length c8, .int .i64 d, .slice A10 ds.length c10, .slice A11 subs.length c11]] w fun e w' => e = .returned (.bool r) ∧ Below w.heap.size w w' := by
  have hmf : ∀ (fn : Fn) (first cap : Array Value) (w : World), (Instr.makeFunc fn first cap).run Tryd.prog w = .ok (.func fn first cap) w := fun _ _ _ _ => rfl
  have HG := Aside0.mk hG
  have HR8 := Aside0.mk hr8
  have HR10 := Aside0.mk hr10
  have BB := Aside0.mk (below_alloc (Below.refl w.heap.size w) (.cells #[.int .u8 3, .string f1, .string f2, .string f3, .int .u8 e0, .string e1, .string e2, .int .i64 e3, .slice A8 l8.length c8, .int .i64 d, .slice A10 ds.length c10, .slice A11 subs.length c11] 29))
  have kk := blk_new w (.cells #[.int .u8 3, .string f1, .string f2, .string f3, .int .u8 e0, .string e1, .string e2, .int .i64 e3, .slice A8 l8.length c8, .int .i64 d, .slice A10 ds.length c10, .slice A11 subs.length c11] 29)
  obtain ⟨x0, x1, x2, x3, x4, x5, x6, x7, x8, x9, x10, x11⟩ := h_box12 kk
  obtain ⟨mb, hpc, lk⟩ := (hP.below BB.out).out
  have lk2 : (Instr.lookup 81 (.map (some mb)) (.int .u8 3) true).run Tryd.prog _ = .ok (.tuple #[.int .i64 256, .bool true]) _ := lk 3 (by decide) (by decide) _ (Below.refl _ _)
  obtain ⟨b_0, k0_0, k1_0, k2_0⟩ := h_three w (.cells #[.int .u8 3, .string f1, .string f2, .string f3, .int .u8 e0, .string e1, .string e2, .int .i64 e3, .slice A8 l8.length c8, .int .i64 d, .slice A10 ds.length c10, .slice A11 subs.length c11] 29) (.int .i64 256) (.func (.func 47) #[] #[.pointer (some ⟨w.heap.size + 1, 0, none⟩)]) 3 82
  have B_0 := Aside0.mk b_0
  have K0_0 := Aside0.mk k0_0
  have K1_0 := Aside0.mk k1_0
  have K2_0 := Aside0.mk k2_0
  clear lk hP hG hr8 hr10 kk b_0 k0_0 k1_0 k2_0
  simp only [contract_node.f] at h
  rw [if_pos ⟨by decide, by decide⟩, if_pos (by decide)] at h
  obtain ⟨t1, ht1, h1⟩ := Option.bind_eq_some_iff.mp h
  have HT1 : Aside0 (wordF k 256 1 f1 = some t1) := ⟨ht1⟩
  clear h ht1
  cases t1
  case false =>
    rw [if_pos rfl] at h1
    obtain rfl := Option.some.inj h1
    go_enter Tryd.func30, Tryd.ntmps30
    go_wp2_with fail
    obtain ⟨x0, x1, x2, x3, x4, x5, x6, x7, x8, x9, x10, x11⟩ := h_box12 K0_0.out; have hp := (blk_cell K1_0.out 0).trans (show #[_][0]? = _ from rfl); have hf := (blk_cell K2_0.out 0).trans (show #[_][0]? = _ from rfl)
    go_wp2_with (first
      | (go_at_call 48; refine (h_node2 k 256 1 _ _ _ false _ hp hf HT1.out).mono ?_; clear HT1; rintro e w' ⟨rfl, hb⟩; have B_1 := Aside0.mk (below_step B_0.out hb); have K0_1 := Aside0.mk (blk_below K0_0.out hb); have K1_1 := Aside0.mk (blk_below K1_0.out hb); have K2_1 := Aside0.mk (blk_below K2_0.out hb); clear x0 x1 x2 x3 x4 x5 x6 x7 x8 x9 x10 x11 hp hf; obtain ⟨x0, x1, x2, x3, x4, x5, x6, x7, x8, x9, x10, x11⟩ := h_box12 K0_1.out; have hp := (blk_cell K1_1.out 0).trans (show #[_][0]? = _ from rfl); have hf := (blk_cell K2_1.out 0).trans (show #[_][0]? = _ from rfl); clear hb)
      | (go_at_call 47; (first | refine (h_node1 256 _ _ true _ hp (by decide)).mono ?_ | refine (h_node1 256 _ _ false _ hp (by decide)).mono ?_); rintro e w' ⟨rfl, rfl⟩))
    go_ret
    exact ⟨rfl, B_1.out⟩
  rw [if_neg (by decide)] at h1
  obtain ⟨t2, ht2, h2⟩ := Option.bind_eq_some_iff.mp h1
  have HT2 : Aside0 (wordF k 256 2 f2 = some t2) := ⟨ht2⟩
  clear h1 ht2
  cases t2
  case false =>
    rw [if_pos rfl] at h2
    obtain rfl := Option.some.inj h2
    go_enter Tryd.func30, Tryd.ntmps30
    go_wp2_with fail
    obtain ⟨x0, x1, x2, x3, x4, x5, x6, x7, x8, x9, x10, x11⟩ := h_box12 K0_0.out; have hp := (blk_cell K1_0.out 0).trans (show #[_][0]? = _ from rfl); have hf := (blk_cell K2_0.out 0).trans (show #[_][0]? = _ from rfl)
    go_wp2_with (first
      | (go_at_call 48; refine (h_node2 k 256 1 _ _ _ true _ hp hf HT1.out).mono ?_; clear HT1; rintro e w' ⟨rfl, hb⟩; have B_1 := Aside0.mk (below_step B_0.out hb); have K0_1 := Aside0.mk (blk_below K0_0.out hb); have K1_1 := Aside0.mk (blk_below K1_0.out hb); have K2_1 := Aside0.mk (blk_below K2_0.out hb); clear x0 x1 x2 x3 x4 x5 x6 x7 x8 x9 x10 x11 hp hf; obtain ⟨x0, x1, x2, x3, x4, x5, x6, x7, x8, x9, x10, x11⟩ := h_box12 K0_1.out; have hp := (blk_cell K1_1.out 0).trans (show #[_][0]? = _ from rfl); have hf := (blk_cell K2_1.out 0).trans (show #[_][0]? = _ from rfl); clear hb)
      | (go_at_call 48; refine (h_node2 k 256 2 _ _ _ false _ hp hf HT2.out).mono ?_; clear HT2; rintro e w' ⟨rfl, hb⟩; have B_2 := Aside0.mk (below_step B_1.out hb); have K0_2 := Aside0.mk (blk_below K0_1.out hb); have K1_2 := Aside0.mk (blk_below K1_1.out hb); have K2_2 := Aside0.mk (blk_below K2_1.out hb); clear x0 x1 x2 x3 x4 x5 x6 x7 x8 x9 x10 x11 hp hf; obtain ⟨x0, x1, x2, x3, x4, x5, x6, x7, x8, x9, x10, x11⟩ := h_box12 K0_2.out; have hp := (blk_cell K1_2.out 0).trans (show #[_][0]? = _ from rfl); have hf := (blk_cell K2_2.out 0).trans (show #[_][0]? = _ from rfl); clear hb)
      | (go_at_call 47; (first | refine (h_node1 256 _ _ true _ hp (by decide)).mono ?_ | refine (h_node1 256 _ _ false _ hp (by decide)).mono ?_); rintro e w' ⟨rfl, rfl⟩))
    go_ret
    exact ⟨rfl, B_2.out⟩
  rw [if_neg (by decide)] at h2
  obtain ⟨t3, ht3, h3⟩ := Option.bind_eq_some_iff.mp h2
  have HT3 : Aside0 (wordF k 256 4 f3 = some t3) := ⟨ht3⟩
  clear h2 ht3
  cases t3
  case false =>
    rw [if_pos rfl] at h3
    obtain rfl := Option.some.inj h3
    go_enter Tryd.func30, Tryd.ntmps30
    go_wp2_with fail
    obtain ⟨x0, x1, x2, x3, x4, x5, x6, x7, x8, x9, x10, x11⟩ := h_box12 K0_0.out; have hp := (blk_cell K1_0.out 0).trans (show #[_][0]? = _ from rfl); have hf := (blk_cell K2_0.out 0).trans (show #[_][0]? = _ from rfl)
    go_wp2_with (first
      | (go_at_call 48; refine (h_node2 k 256 1 _ _ _ true _ hp hf HT1.out).mono ?_; clear HT1; rintro e w' ⟨rfl, hb⟩; have B_1 := Aside0.mk (below_step B_0.out hb); have K0_1 := Aside0.mk (blk_below K0_0.out hb); have K1_1 := Aside0.mk (blk_below K1_0.out hb); have K2_1 := Aside0.mk (blk_below K2_0.out hb); clear x0 x1 x2 x3 x4 x5 x6 x7 x8 x9 x10 x11 hp hf; obtain ⟨x0, x1, x2, x3, x4, x5, x6, x7, x8, x9, x10, x11⟩ := h_box12 K0_1.out; have hp := (blk_cell K1_1.out 0).trans (show #[_][0]? = _ from rfl); have hf := (blk_cell K2_1.out 0).trans (show #[_][0]? = _ from rfl); clear hb)
      | (go_at_call 48; refine (h_node2 k 256 2 _ _ _ true _ hp hf HT2.out).mono ?_; clear HT2; rintro e w' ⟨rfl, hb⟩; have B_2 := Aside0.mk (below_step B_1.out hb); have K0_2 := Aside0.mk (blk_below K0_1.out hb); have K1_2 := Aside0.mk (blk_below K1_1.out hb); have K2_2 := Aside0.mk (blk_below K2_1.out hb); clear x0 x1 x2 x3 x4 x5 x6 x7 x8 x9 x10 x11 hp hf; obtain ⟨x0, x1, x2, x3, x4, x5, x6, x7, x8, x9, x10, x11⟩ := h_box12 K0_2.out; have hp := (blk_cell K1_2.out 0).trans (show #[_][0]? = _ from rfl); have hf := (blk_cell K2_2.out 0).trans (show #[_][0]? = _ from rfl); clear hb)
      | (go_at_call 48; refine (h_node2 k 256 4 _ _ _ false _ hp hf HT3.out).mono ?_; clear HT3; rintro e w' ⟨rfl, hb⟩; have B_3 := Aside0.mk (below_step B_2.out hb); have K0_3 := Aside0.mk (blk_below K0_2.out hb); have K1_3 := Aside0.mk (blk_below K1_2.out hb); have K2_3 := Aside0.mk (blk_below K2_2.out hb); clear x0 x1 x2 x3 x4 x5 x6 x7 x8 x9 x10 x11 hp hf; obtain ⟨x0, x1, x2, x3, x4, x5, x6, x7, x8, x9, x10, x11⟩ := h_box12 K0_3.out; have hp := (blk_cell K1_3.out 0).trans (show #[_][0]? = _ from rfl); have hf := (blk_cell K2_3.out 0).trans (show #[_][0]? = _ from rfl); clear hb)
      | (go_at_call 47; (first | refine (h_node1 256 _ _ true _ hp (by decide)).mono ?_ | refine (h_node1 256 _ _ false _ hp (by decide)).mono ?_); rintro e w' ⟨rfl, rfl⟩))
    go_ret
    exact ⟨rfl, B_3.out⟩
  rw [if_neg (by decide)] at h3
  rw [if_neg (fun e => absurd e.1 (by decide))] at h3
  rw [if_neg (by decide), if_neg (by decide)] at h3
  obtain ⟨ok, hok, h4⟩ := Option.bind_eq_some_iff.mp h3
  have HOK := Aside0.mk hok
  clear h3 hok
  rw [if_neg (by decide)] at h4
  have h5 := h4
  clear h4
  simp only [Option.bind_some] at h5
  rw [if_neg (by decide)] at h5
  have h6 := h5
  clear h5
  simp only [Option.bind_some] at h6
  rw [if_pos (by decide)] at h6
  obtain rfl := Option.some.inj h6
  clear h6
  go_enter Tryd.func30, Tryd.ntmps30
  go_wp2_with fail
  obtain ⟨x0, x1, x2, x3, x4, x5, x6, x7, x8, x9, x10, x11⟩ := h_box12 K0_0.out; have hp := (blk_cell K1_0.out 0).trans (show #[_][0]? = _ from rfl); have hf := (blk_cell K2_0.out 0).trans (show #[_][0]? = _ from rfl)
  go_wp2_with (first
    | (go_at_call 48; refine (h_node2 k 256 1 _ _ _ true _ hp hf HT1.out).mono ?_; clear HT1; rintro e w' ⟨rfl, hb⟩; have B_1 := Aside0.mk (below_step B_0.out hb); have K0_1 := Aside0.mk (blk_below K0_0.out hb); have K1_1 := Aside0.mk (blk_below K1_0.out hb); have K2_1 := Aside0.mk (blk_below K2_0.out hb); clear x0 x1 x2 x3 x4 x5 x6 x7 x8 x9 x10 x11 hp hf; obtain ⟨x0, x1, x2, x3, x4, x5, x6, x7, x8, x9, x10, x11⟩ := h_box12 K0_1.out; have hp := (blk_cell K1_1.out 0).trans (show #[_][0]? = _ from rfl); have hf := (blk_cell K2_1.out 0).trans (show #[_][0]? = _ from rfl); clear hb)
    | (go_at_call 48; refine (h_node2 k 256 2 _ _ _ true _ hp hf HT2.out).mono ?_; clear HT2; rintro e w' ⟨rfl, hb⟩; have B_2 := Aside0.mk (below_step B_1.out hb); have K0_2 := Aside0.mk (blk_below K0_1.out hb); have K1_2 := Aside0.mk (blk_below K1_1.out hb); have K2_2 := Aside0.mk (blk_below K2_1.out hb); clear x0 x1 x2 x3 x4 x5 x6 x7 x8 x9 x10 x11 hp hf; obtain ⟨x0, x1, x2, x3, x4, x5, x6, x7, x8, x9, x10, x11⟩ := h_box12 K0_2.out; have hp := (blk_cell K1_2.out 0).trans (show #[_][0]? = _ from rfl); have hf := (blk_cell K2_2.out 0).trans (show #[_][0]? = _ from rfl); clear hb)
    | (go_at_call 48; refine (h_node2 k 256 4 _ _ _ true _ hp hf HT3.out).mono ?_; clear HT3; rintro e w' ⟨rfl, hb⟩; have B_3 := Aside0.mk (below_step B_2.out hb); have K0_3 := Aside0.mk (blk_below K0_2.out hb); have K1_3 := Aside0.mk (blk_below K1_2.out hb); have K2_3 := Aside0.mk (blk_below K2_2.out hb); clear x0 x1 x2 x3 x4 x5 x6 x7 x8 x9 x10 x11 hp hf; obtain ⟨x0, x1, x2, x3, x4, x5, x6, x7, x8, x9, x10, x11⟩ := h_box12 K0_3.out; have hp := (blk_cell K1_3.out 0).trans (show #[_][0]? = _ from rfl); have hf := (blk_cell K2_3.out 0).trans (show #[_][0]? = _ from rfl); clear hb)
    | (go_at_call 47; (first | refine (h_node1 256 _ _ true _ hp (by decide)).mono ?_ | refine (h_node1 256 _ _ false _ hp (by decide)).mono ?_); rintro e w' ⟨rfl, rfl⟩)
    | (go_at_call 43; refine (contract_bare.calls _ _ _ _ _ _ _ ok _ (Kd.C_below HR8.out B_3.out) hc8 HOK.out).mono ?_; clear HOK; rintro e w' ⟨rfl, hb⟩; have B_4 := Aside0.mk (below_step B_3.out hb); have K0_4 := Aside0.mk (blk_below K0_3.out hb); have K1_4 := Aside0.mk (blk_below K1_3.out hb); have K2_4 := Aside0.mk (blk_below K2_3.out hb); clear x0 x1 x2 x3 x4 x5 x6 x7 x8 x9 x10 x11 hp hf; obtain ⟨x0, x1, x2, x3, x4, x5, x6, x7, x8, x9, x10, x11⟩ := h_box12 K0_4.out; have hp := (blk_cell K1_4.out 0).trans (show #[_][0]? = _ from rfl); have hf := (blk_cell K2_4.out 0).trans (show #[_][0]? = _ from rfl); clear hb))
  all_goals
    go_ret
    refine ⟨?_, B_4.out⟩
    first
      | rfl
      | (refine congrArg Ending.returned (congrArg Value.bool ?_); simp [*]; done)

end Go.Proofs.YtalaekadkjhldaaDoor.Pr
