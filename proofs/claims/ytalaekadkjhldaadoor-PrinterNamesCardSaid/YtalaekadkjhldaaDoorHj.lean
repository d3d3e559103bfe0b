/- A part of the proof of the statement PrinterNames (the printer's examples, further texts and errors): contracts of functions of the program, proved by walking their text. -/
import Derived.Test.YtalaekadkjhldaaDoorPn0
import Derived.Test.YtalaekadkjhldaaDoorPn1
import Derived.Test.YtalaekadkjhldaaDoorPn2
import Derived.Test.YtalaekadkjhldaaDoorPn3
import Derived.Test.YtalaekadkjhldaaDoorPn4
import Derived.Test.YtalaekadkjhldaaDoorPn5
import Derived.Test.YtalaekadkjhldaaDoorPn6
import Derived.Outline
import Derived.Deep.RegionWith
import Derived.Laws.EntriesVeiled
import Derived.RangeFuncNested
import Derived.RangeFuncBound
import Derived.RangeFuncCalls
import Derived.RangeFuncLeaves
import Derived.Shelf.Abstract
import Derived.Shelf.RegionOpen
import Derived.WalkKit
import Derived.OwnWalkIn
import Derived.TacticsInMore
import Derived.LoopNIn
import Derived.LoopIn
import Derived.Test.YtalaekadkjhldaaDoorShelf
import Derived.Test.YtalaekadkjhldaaDoorHa
import Derived.Test.YtalaekadkjhldaaDoorHb
import Derived.Test.YtalaekadkjhldaaDoorHe
import Derived.Test.YtalaekadkjhldaaDoorHf
import Derived.Test.YtalaekadkjhldaaDoorHg
import Derived.Test.YtalaekadkjhldaaDoorHh
import Derived.Test.YtalaekadkjhldaaDoorHi
namespace Go.Proofs.YtalaekadkjhldaaDoor.Pr
open Go.RowKit Go.Proofs.YtalaekadkjhldaaDoorW.PrintWords Go.Proofs.YtalaekadkjhldaaDoorW.PrintLast Go.Proofs.YtalaekadkjhldaaDoorW.PrintMore
attribute [local go_sem] max2_int min2_int max_two min_two max_three min_three max_four min_four
set_option linter.unusedVariables false
set_option linter.unusedSimpArgs false
-- IMPORT Derived.Outline Derived.Deep.RegionWith Derived.Laws.EntriesVeiled
set_option maxHeartbeats 4000000 in
set_option maxRecDepth 100000 in
theorem h_node_no (k : Nat) (a0 : Int) (f1 f2 f3 : ByteArray) (e0 : Int) (e1 e2 : ByteArray) (e3 : Int) (A8 : Option Addr) (c8 : Nat) (n8 : Nat) (d : Int) (A10 : Option Addr) (c10 n10 : Nat) (A11 : Option Addr) (c11 n11 : Nat) (w : World)
    (hP : PtG w) (h0 : 0 ≤ a0) (h1 : a0 < 256) (hb : partsB a0 = false) :
    Calls Tryd.prog 30 #[.agg #[.int .u8 a0, .string f1, .string f2, .string f3, .int .u8 e0, .string e1, .string e2, .int .i64 e3, .slice A8 n8 c8, .int .i64 d, .slice A10 n10 c10, .slice A11 n11 c11]] w fun e w' => e = .returned (.bool false) ∧ Below w.heap.size w w' := by
  have BB := Aside0.mk (below_alloc (Below.refl w.heap.size w) (.cells #[.int .u8 a0, .string f1, .string f2, .string f3, .int .u8 e0, .string e1, .string e2, .int .i64 e3, .slice A8 n8 c8, .int .i64 d, .slice A10 n10 c10, .slice A11 n11 c11] 29))
  have kk := blk_new w (.cells #[.int .u8 a0, .string f1, .string f2, .string f3, .int .u8 e0, .string e1, .string e2, .int .i64 e3, .slice A8 n8 c8, .int .i64 d, .slice A10 n10 c10, .slice A11 n11 c11] 29)
  obtain ⟨x0, x1, x2, x3, x4, x5, x6, x7, x8, x9, x10, x11⟩ := h_box12 kk
  obtain ⟨mb, hpc, lk⟩ := (hP.below BB.out).out
  have lk2 := lk a0 h0 h1 _ (Below.refl _ _)
  rw [hb] at lk2
  have B2 := Aside0.mk (below_step BB.out (below_alloc (Below.refl _ _) (.cells #[.int .i64 (partsV a0)] 3)))
  clear lk hP kk
  go_enter Tryd.func30, Tryd.ntmps30
  go_wp2_with fail
  go_ret
  exact ⟨rfl, B2.out⟩
theorem contract_node.calls (k : Nat) (a0 : Int) (f1 f2 f3 : ByteArray) (e0 : Int) (e1 e2 : ByteArray) (e3 : Int) (A8 : Option Addr) (c8 : Nat) (l8 : List S25) (d : Int) (A10 : Option Addr) (c10 : Nat) (ds : List Int) (A11 : Option Addr) (c11 : Nat) (subs : List S29) (r : Bool) (w : World)
    (hG : ShG w) (hP : PtG w) (hr8 : Kd.C k25 w A8 l8.length l8) (hc8 : l8.length ≤ c8) (hr10 : Kd.C (Kd.int .i64) w A10 ds.length ds) (hc10 : ds.length ≤ c10) (hsub : subs.length ≤ 9223372036854775807) (h : contract_node.f k a0 f1 f2 f3 e0 e1 e2 e3 l8 d ds subs = some r) :
    Calls Tryd.prog 30 #[.agg #[.int .u8 a0, .string f1, .string f2, .string f3, .int .u8 e0, .string e1, .string e2, .int .i64 e3, .slice A8 l8.length c8, .int .i64 d, .slice A10 ds.length c10, .slice A11 subs.length c11]] w fun e w' => e = .returned (.bool r) ∧ Below w.heap.size w w' := by
  by_cases hk : 0 ≤ a0 ∧ a0 < 256
  case neg => unfold contract_node.f at h; rw [if_neg hk] at h; cases h
  by_cases hp : partsB a0 = true
  · have : 1 ≤ a0 ∧ a0 ≤ 10 := of_decide_eq_true hp
    have : a0 = 1 ∨ a0 = 2 ∨ a0 = 3 ∨ a0 = 4 ∨ a0 = 5 ∨ a0 = 6 ∨ a0 = 7 ∨ a0 = 8 ∨ a0 = 9 ∨ a0 = 10 := by omega
    rcases this with e | e | e | e | e | e | e | e | e | e <;> subst e
    · exact h_node_1 k f1 f2 f3 e0 e1 e2 e3 A8 c8 l8 d A10 c10 ds A11 c11 subs r w hG hP hr8 hc8 hr10 hc10 hsub h
    · exact h_node_2 k f1 f2 f3 e0 e1 e2 e3 A8 c8 l8 d A10 c10 ds A11 c11 subs r w hG hP hr8 hc8 hr10 hc10 hsub h
    · exact h_node_3 k f1 f2 f3 e0 e1 e2 e3 A8 c8 l8 d A10 c10 ds A11 c11 subs r w hG hP hr8 hc8 hr10 hc10 hsub h
    · exact h_node_4 k f1 f2 f3 e0 e1 e2 e3 A8 c8 l8 d A10 c10 ds A11 c11 subs r w hG hP hr8 hc8 hr10 hc10 hsub h
    · exact h_node_5 k f1 f2 f3 e0 e1 e2 e3 A8 c8 l8 d A10 c10 ds A11 c11 subs r w hG hP hr8 hc8 hr10 hc10 hsub h
    · exact h_node_6 k f1 f2 f3 e0 e1 e2 e3 A8 c8 l8 d A10 c10 ds A11 c11 subs r w hG hP hr8 hc8 hr10 hc10 hsub h
    · exact h_node_7 k f1 f2 f3 e0 e1 e2 e3 A8 c8 l8 d A10 c10 ds A11 c11 subs r w hG hP hr8 hc8 hr10 hc10 hsub h
    · exact h_node_8 k f1 f2 f3 e0 e1 e2 e3 A8 c8 l8 d A10 c10 ds A11 c11 subs r w hG hP hr8 hc8 hr10 hc10 hsub h
    · exact h_node_9 k f1 f2 f3 e0 e1 e2 e3 A8 c8 l8 d A10 c10 ds A11 c11 subs r w hG hP hr8 hc8 hr10 hc10 hsub h
    · exact h_node_10 k f1 f2 f3 e0 e1 e2 e3 A8 c8 l8 d A10 c10 ds A11 c11 subs r w hG hP hr8 hc8 hr10 hc10 hsub h
  · have hp' : partsB a0 = false := by simpa using hp
    unfold contract_node.f at h
    rw [if_pos hk, if_neg hp] at h
    obtain rfl := Option.some.inj h
    exact h_node_no k a0 f1 f2 f3 e0 e1 e2 e3 A8 c8 l8.length d A10 c10 ds.length A11 c11 subs.length w hP hk.1 hk.2 hp'

-- IMPORT Derived.RangeFuncNested Derived.RangeFuncBound Derived.RangeFuncCalls Derived.RangeFuncLeaves Derived.Shelf.Abstract Derived.Shelf.RegionOpen Derived.WalkKit Derived.OwnWalkIn Derived.TacticsInMore Derived.LoopNIn Derived.LoopIn Derived.Laws.EntriesVeiled
open Go.Shelf
attribute [local go_sem] Oper.semAt_some
def nodeC (k : Nat) (c : S29) : Option Bool := contract_node.f k c.f0 c.f1 c.f2 c.f3 c.f4.f0 c.f4.f1 c.f4.f2 c.f4.f3 c.f4.f4 c.f5 c.f6 c.f7
def nodeS (k : Nat) (b : Bool) (c : S29) : Option Bool := (nodeC k c).bind fun t => some (b && t)
def NodeQ (k : Nat) (c : S29) : Prop := ∃ t, nodeC k c = some t
theorem nodeS_Q {k : Nat} {b r : Bool} {c : S29} (h : nodeS k b c = some r) : NodeQ k c := by
  obtain ⟨t, ht, _⟩ := Option.bind_eq_some_iff.mp h
  exact ⟨t, ht⟩
theorem nodeS_false {k : Nat} : ∀ {l : List S29} {r : Bool}, l.foldlM (nodeS k) false = some r → r = false
  | [], r, h => by simpa using h.symm
  | x :: xs, r, h => by
    rw [List.foldlM_cons] at h
    obtain ⟨u, hu, h2⟩ := Option.bind_eq_some_iff.mp h
    obtain ⟨t, _, ht⟩ := Option.bind_eq_some_iff.mp hu
    obtain rfl := Option.some.inj ht
    exact nodeS_false h2
def contract_Depth.c (k : Nat) (c : S29) : Option Int := contract_Depth.f k c.f0 c.f1 c.f2 c.f3 c.f4.f0 c.f4.f1 c.f4.f2 c.f4.f3 c.f4.f4 c.f5 c.f6 c.f7
def contract_Check.f (k : Nat) (c : S29) : Option Int := (contract_Size.f k c).bind fun s => if s > 500 then some 4 else (contract_Depth.c k c).bind fun d => if d > 60 then some 4 else (preF k c).bind fun L => (L.foldlM (nodeS k) true).bind fun t => some (if t = true then 0 else 8)
theorem h_check_own (w : World) (k b : Nat) {Q : S29 → Prop} (B : Nat) (hB : w.heap.size ≤ B) (u : Bool) (e : Int) : OwnFrom B (fun (pre : List (Nd w Q)) (W : World) => ((pre.map (·.c)).foldlM (nodeS k) true = some u ∧ Boxed W b 32 (.int .i64 e)) ∧ Below w.heap.size w W) := by
  intro s X Y row hs hg hr
  obtain ⟨⟨h1, h2⟩, h3⟩ := hs
  exact ⟨⟨h1, own_blk h2 hg (fun r e => (hr r e).2)⟩, ownFrom_below (β := Unit) (Nat.le_refl _) hB () X Y row h3 hg hr⟩
def Nd.with {w : World} {Q : S29 → Prop} (x : Nd w Q) {R : S29 → Prop} (h : R x.c) : Nd w R := { x with ok := h }
def Nd.later {w W : World} {Q R : S29 → Prop} (x : Nd w Q) (hb : Below w.heap.size w W) (h : R x.c) : Nd W R :=
  ⟨x.c, h, x.A8, x.c8, x.A10, x.c10, x.A11, x.c11, Kd.C_below x.r8 hb, x.h8, Kd.C_below x.r10 hb, x.h10, Kd.C_below x.r11 hb, x.h11⟩
set_option maxRecDepth 100000 in
set_option maxHeartbeats 4000000 in
theorem h_check_many1 (k : Nat) (w : World) {Q : S29 → Prop} (x : Nd w Q) (s : Int) (hs : contract_Size.f k x.c = some s) (h5 : 500 < s) :
    Calls Tryd.prog 18 #[.agg x.cells] w fun e w' => e = .returned (.int .i64 4) ∧ Below w.heap.size w w' := by
  obtain ⟨L, hL, hs2⟩ := Option.bind_eq_some_iff.mp hs
  have hq : SizeQ k x.c := foldlM_all (fun b a r h => sizeS_Q h) hs2 _ (preF_head hL)
  have c1b : decide (500 < s) = true := decide_eq_true h5
  have K0 := blk_new w (.cells x.cells 29)
  have B0 := below_alloc (Below.refl w.heap.size w) (.cells x.cells 29)
  have BA := below_alloc (Below.refl (w.alloc (.cells x.cells 29)).heap.size (w.alloc (.cells x.cells 29))) (.cells #[.int .i64 0] 32)
  have S1 := blk_new (w.alloc (.cells x.cells 29)) (.cells #[.int .i64 0] 32)
  have B1 := below_step B0 BA
  have K1 := blk_below K0 BA
  simp only [World.size_alloc] at S1
  have hcall := callsIn_wide (n := 2).2 (h_size_calls k _ (x.later B1 hq) L s hL hs2)
  have hcs : (x.later B1 hq).cells = x.cells := rfl
  rw [hcs] at hcall
  unfold Nd.cells at K1 S1 hcall B1 BA ⊢
  obtain ⟨x0, x1, x2, x3, x4, x5, x6, x7, x8, x9, x10, x11⟩ := h_box12 K1
  clear K0 B0 BA
  refine (callsIn_wide (n := 3)).1 ?_
  refine callsIn_of_wp_marks Tryd.func18 rfl trivial ?_ rfl
  simp only [Tryd.ntmps18, List.size_toArray, List.length_cons, List.length_nil, Nat.reduceAdd, Nat.reduceSub, Array.replicate_succ, Array.replicate_zero, List.push_toArray, List.append_toArray, List.nil_append, List.cons_append]
  gi_wp2_with (refine ⟨trivial, ?_⟩; gi_at_call 27; refine hcall.mono ?_; clear hcall; rintro e W2 ⟨rfl, hb⟩; have B2 := Aside0.mk (below_step B1 hb); have S2 := Aside0.mk (blk_below S1 hb); clear hb; have hc := Boxed.cell S2.out; have hfz := Boxed.frozen S2.out)
  refine ⟨trivial, ?_⟩
  gi_wp2
  have hc5 := Boxed.cell (Boxed.set (.int .i64 4) S2.out)
  exact ⟨.int .i64 4, by simp [results, Tryd.results18, go_sem, hc5], rfl, B2.out.setCell (p := ⟨w.heap.size + 1, 0, none⟩) (by simp) _⟩
set_option maxRecDepth 100000 in
set_option maxHeartbeats 4000000 in
theorem h_check_many2 (k : Nat) (w : World) {Q : S29 → Prop} (x : Nd w Q) (s : Int) (hs : contract_Size.f k x.c = some s) (h5 : ¬ 500 < s) (d : Int) (hd : contract_Depth.c k x.c = some d) (h6 : 60 < d) :
    Calls Tryd.prog 18 #[.agg x.cells] w fun e w' => e = .returned (.int .i64 4) ∧ Below w.heap.size w w' := by
  obtain ⟨L, hL, hs2⟩ := Option.bind_eq_some_iff.mp hs
  have hq : SizeQ k x.c := foldlM_all (fun b a r h => sizeS_Q h) hs2 _ (preF_head hL)
  have c1b : decide (500 < s) = false := decide_eq_false h5
  have c2b : decide (60 < d) = true := decide_eq_true h6
  have K0 := blk_new w (.cells x.cells 29)
  have B0 := below_alloc (Below.refl w.heap.size w) (.cells x.cells 29)
  have BA := below_alloc (Below.refl (w.alloc (.cells x.cells 29)).heap.size (w.alloc (.cells x.cells 29))) (.cells #[.int .i64 0] 32)
  have S1 := blk_new (w.alloc (.cells x.cells 29)) (.cells #[.int .i64 0] 32)
  have B1 := below_step B0 BA
  have K1 := blk_below K0 BA
  simp only [World.size_alloc] at S1
  have hcall := callsIn_wide (n := 2).2 (h_size_calls k _ (x.later B1 hq) L s hL hs2)
  have hcs : (x.later B1 hq).cells = x.cells := rfl
  rw [hcs] at hcall
  unfold Nd.cells at K1 S1 hcall B1 BA ⊢
  obtain ⟨x0, x1, x2, x3, x4, x5, x6, x7, x8, x9, x10, x11⟩ := h_box12 K1
  clear K0 B0 BA
  refine (callsIn_wide (n := 3)).1 ?_
  refine callsIn_of_wp_marks Tryd.func18 rfl trivial ?_ rfl
  simp only [Tryd.ntmps18, List.size_toArray, List.length_cons, List.length_nil, Nat.reduceAdd, Nat.reduceSub, Array.replicate_succ, Array.replicate_zero, List.push_toArray, List.append_toArray, List.nil_append, List.cons_append]
  gi_wp2_with (first
    | (refine ⟨trivial, ?_⟩; gi_at_call 27; refine hcall.mono ?_; clear hcall; rintro e W2 ⟨rfl, hb⟩; have B2 := Aside0.mk (below_step B1 hb); have S2 := Aside0.mk (blk_below S1 hb); have HB := Aside0.mk hb; clear hb; have hc := Boxed.cell S2.out; have hfz := Boxed.frozen S2.out; clear x0 x1 x2 x3 x4 x5 x6 x7 x8 x9 x10 x11; have K2 := Aside0.mk (blk_below K1 HB.out); obtain ⟨x0, x1, x2, x3, x4, x5, x6, x7, x8, x9, x10, x11⟩ := h_box12 K2.out)
    | (refine ⟨trivial, ?_⟩; gi_at_call 28; refine (callsIn_wide.2 (contract_Depth.calls k _ _ _ _ _ _ _ _ _ _ _ _ _ _ _ _ _ _ d _ (Kd.C_below x.r8 B2.out) x.h8 (Kd.C_below x.r10 B2.out) x.h10 (Kd.C_below x.r11 B2.out) x.h11 hd)).mono ?_; rintro e W3 ⟨rfl, hb⟩; have B3 := Aside0.mk (below_step B2.out hb); have S3 : Aside0 (Boxed W3 (w.heap.size + 1) 32 (.int .i64 0)) := ⟨blk_below S2.out hb⟩; clear hb hc hfz; have hc := Boxed.cell S3.out; have hfz := Boxed.frozen S3.out))
  have hc5 := Boxed.cell (Boxed.set (.int .i64 4) S3.out)
  exact ⟨.int .i64 4, by simp [results, Tryd.results18, go_sem, hc5], rfl, B3.out.setCell (p := ⟨w.heap.size + 1, 0, none⟩) (by simp) _⟩
set_option maxRecDepth 100000 in
set_option maxHeartbeats 4000000 in
theorem h_check_loop (k : Nat) (w : World) {Q : S29 → Prop} (x : Nd w Q) (s : Int) (hs : contract_Size.f k x.c = some s) (h5 : ¬ 500 < s) (d : Int) (hd : contract_Depth.c k x.c = some d) (h6 : ¬ 60 < d) (L : List S29) (hL : preF k x.c = some L) (u : Bool) (hu : L.foldlM (nodeS k) true = some u) (r : Int) (hrr : Aside0 (r = if u = true then 0 else 8)) (hG : ShG w) (hP : PtG w) :
    Calls Tryd.prog 18 #[.agg x.cells] w fun e w' => e = .returned (.int .i64 r) ∧ Below w.heap.size w w' := by
  obtain ⟨L', hL', hs2⟩ := Option.bind_eq_some_iff.mp hs
  obtain rfl : L = L' := Option.some.inj (hL.symm.trans hL')
  clear hL'
  have hQ : ∀ c ∈ L, NodeQ k c := foldlM_all (fun b a r h => nodeS_Q h) hu
  obtain ⟨xn, hxn⟩ : ∃ xn : Nd w (NodeQ k), xn = x.with (hQ _ (preF_head hL)) := ⟨_, rfl⟩
  have hxc : xn.cells = x.cells := by rw [hxn]; rfl
  have hxcc : xn.c = x.c := by rw [hxn]; rfl
  have hq : SizeQ k x.c := foldlM_all (fun b a r h => sizeS_Q h) hs2 _ (preF_head hL)
  have c1b : decide (500 < s) = false := decide_eq_false h5
  have c2b : decide (60 < d) = false := decide_eq_false h6
  have K0 := blk_new w (.cells x.cells 29)
  have B0 := below_alloc (Below.refl w.heap.size w) (.cells x.cells 29)
  have BA := below_alloc (Below.refl (w.alloc (.cells x.cells 29)).heap.size (w.alloc (.cells x.cells 29))) (.cells #[.int .i64 0] 32)
  have S1 := blk_new (w.alloc (.cells x.cells 29)) (.cells #[.int .i64 0] 32)
  have B1 := below_step B0 BA
  have K1 := blk_below K0 BA
  simp only [World.size_alloc] at S1
  have hcall := callsIn_wide (n := 2).2 (h_size_calls k _ (x.later B1 hq) L s hL hs2)
  have hcs : (x.later B1 hq).cells = x.cells := rfl
  rw [hcs] at hcall
  unfold Nd.cells at K1 S1 hcall B1 BA ⊢
  obtain ⟨x0, x1, x2, x3, x4, x5, x6, x7, x8, x9, x10, x11⟩ := h_box12 K1
  clear K0 B0 BA
  refine (callsIn_wide (n := 3)).1 ?_
  refine callsIn_of_wp_marks Tryd.func18 rfl trivial ?_ rfl
  simp only [Tryd.ntmps18, List.size_toArray, List.length_cons, List.length_nil, Nat.reduceAdd, Nat.reduceSub, Array.replicate_succ, Array.replicate_zero, List.push_toArray, List.append_toArray, List.nil_append, List.cons_append]
  gi_wp2_with (first
    | (refine ⟨trivial, ?_⟩; gi_at_call 27; refine hcall.mono ?_; clear hcall; rintro e W2 ⟨rfl, hb⟩; have B2 := Aside0.mk (below_step B1 hb); have S2 := Aside0.mk (blk_below S1 hb); have HB := Aside0.mk hb; clear hb; have hc := Boxed.cell S2.out; have hfz := Boxed.frozen S2.out; clear x0 x1 x2 x3 x4 x5 x6 x7 x8 x9 x10 x11; have K2 := Aside0.mk (blk_below K1 HB.out); obtain ⟨x0, x1, x2, x3, x4, x5, x6, x7, x8, x9, x10, x11⟩ := h_box12 K2.out)
    | (refine ⟨trivial, ?_⟩; gi_at_call 28; refine (callsIn_wide.2 (contract_Depth.calls k _ _ _ _ _ _ _ _ _ _ _ _ _ _ _ _ _ _ d _ (Kd.C_below x.r8 B2.out) x.h8 (Kd.C_below x.r10 B2.out) x.h10 (Kd.C_below x.r11 B2.out) x.h11 hd)).mono ?_; rintro e W3 ⟨rfl, hb⟩; have B3 := Aside0.mk (below_step B2.out hb); have S3 : Aside0 (Boxed W3 (w.heap.size + 1) 32 (.int .i64 0)) := ⟨blk_below S2.out hb⟩; have HB3 := Aside0.mk hb; clear hb hc hfz; have hc := Boxed.cell S3.out; have hfz := Boxed.frozen S3.out; clear x0 x1 x2 x3 x4 x5 x6 x7 x8 x9 x10 x11; have K3 := Aside0.mk (blk_below K2.out HB3.out); obtain ⟨x0, x1, x2, x3, x4, x5, x6, x7, x8, x9, x10, x11⟩ := h_box12 K3.out; have hnodes := h_nodes_in 2 xn W3; rw [hxc] at hnodes; unfold Nd.cells at hnodes)
    | (refine ⟨trivial, ?_⟩; gi_at_call 29; refine hnodes.mono ?_; clear hnodes; rintro e w' ⟨rfl, rfl⟩))
  clear x0 x1 x2 x3 x4 x5 x6 x7 x8 x9 x10 x11 hc hfz K1 S1 B1 hcs
  have BN := below_alloc (Below.refl W3.heap.size W3) (.cells x.cells 29)
  have hbn := blk_below S3.out BN
  have hkn := blk_new W3 (.cells x.cells 29)
  have B4 := below_step B3.out BN
  have hst := fun n => h_nodes_stops n xn L k (w.heap.size + 1) W3.heap.size (W3.alloc (.cells xn.cells 29)) (blk_new W3 _) (by rw [hxc]; exact B4) (by omega) (by have := B3.out.size; have := Boxed.lt S3.out; simp; omega) (by rw [hxcc]; exact hL) hQ
  rw [hxc] at hst
  have hlt := Boxed.lt S3.out
  unfold Nd.cells at hst BN hbn hkn B4
  generalize hW0 : W3.alloc _ = W0 at hst BN hbn hkn B4 ⊢
  have hsz : W0.heap.size = W3.heap.size + 1 := by rw [← hW0]; simp
  clear hW0
  have HG := Aside0.mk hG
  have HP := Aside0.mk hP
  refine wpIn_rangeFunc_ownH rfl (by omega) (gf := 45) (lb := #[.pointer (some ⟨W3.heap.size, 0, none⟩)]) rfl trivial (enters_of Tryd.func45 (by kernel_rfl) rfl) (hst _) KpN.trans (KpN.put B4.size) (Below.refl _ _) (fun _ => rfl)
    (fun (pre : List (Nd w (NodeQ k))) (W : World) => ((pre.map (·.c)).foldlM (nodeS k) true = some true ∧ Boxed W (w.heap.size + 1) 32 (.int .i64 0)) ∧ Below w.heap.size w W)
    (fun c (pre : List (Nd w (NodeQ k))) (W : World) => c = .ret ∧ ((pre.map (·.c)).foldlM (nodeS k) true = some false ∧ Boxed W (w.heap.size + 1) 32 (.int .i64 8)) ∧ Below w.heap.size w W)
    (h_check_own w k (w.heap.size + 1) W0.heap.size (by omega) true 0) (fun c s X Y row hs hg hr => ⟨hs.1, h_check_own w k (w.heap.size + 1) W0.heap.size (by omega) false 8 s X Y row hs.2 hg hr⟩) ⟨⟨rfl, hbn⟩, B4⟩
    (fun y a' W => ∃ Bx, w.heap.size + 1 < Bx ∧ W.heap[Bx]? = some (.cells y.cells 29 (0, 0)) ∧ a' = { tmps := #[.agg x.cells, .pointer (some ⟨w.heap.size, 0, none⟩), .pointer (some ⟨w.heap.size + 1, 0, none⟩), .pointer (some ⟨Bx, 0, none⟩), .agg x.cells, .int .i64 s, .bool false, .bool false, .agg x.cells, .int .i64 d, .bool false, .bool false, .agg x.cells, .func (.func 45) #[] #[.pointer (some ⟨W3.heap.size, 0, none⟩)], .agg y.cells, undef, undef, undef], defers := [] })
    (fun y a' s X Y row hs hg hr => by obtain ⟨Bx, h1, h2, h3⟩ := hs; exact ⟨Bx, h1, own_blk h2 hg (fun r e => (hr r e).2), h3⟩) ?assign ?body ?done ?stop
  case assign =>
    rintro l pre y W K ⟨⟨hv, hbx⟩, hBW⟩ hK
    have BA := below_alloc (Below.refl W.heap.size W) (.cells y.cells 29)
    have hnew := blk_new W (.cells y.cells 29)
    unfold Nd.cells at BA hnew
    gi_wp2
    refine hK _ _ (keepsFrom_below BA) (KpN.of_below hBW.size BA) ⟨⟨hv, blk_below hbx BA⟩, below_step hBW BA⟩ ⟨W.heap.size, hbx.lt, hnew, ?_⟩
    simp [Nd.cells]
  case body =>
    rintro l pre y a' W hl ⟨rc, hrc⟩ ⟨⟨hv, hbx⟩, hBW⟩ ⟨Bx, hBx, hyx, rfl⟩ hlen
    obtain ⟨t, ht⟩ := y.ok
    unfold Nd.cells at hyx
    obtain ⟨x0, x1, x2, x3, x4, x5, x6, x7, x8, x9, x10, x11⟩ := h_box12 hyx
    have BW := Aside0.mk hBW
    unfold Nd.cells
    gi_wp2
    refine ⟨trivial, (CallsIn.inRound l (callsIn_wide.2 (contract_node.calls k _ _ _ _ _ _ _ _ _ _ _ _ _ _ _ _ _ _ t _ (HG.out.below BW.out) (HP.out.below BW.out) (Kd.C_below y.r8 BW.out) y.h8 (Kd.C_below y.r10 BW.out) y.h10 (Kd.C_len_le y.r11) ht))).mono ?_⟩
    rintro e W2 ⟨rfl, hb⟩
    have S2 := Aside0.mk (blk_below hbx hb)
    have BW2 := Aside0.mk (below_step hBW hb)
    have KP2 := Aside0.mk (KpN.of_below (b := w.heap.size + 1) hBW.size hb)
    have KF2 : Aside0 (KeepsFrom W0.heap.size W W2) := ⟨keepsFrom_below hb⟩
    clear hb x0 x1 x2 x3 x4 x5 x6 x7 x8 x9 x10 x11
    have hc2 := Boxed.cell S2.out
    have hfz2 := Boxed.frozen S2.out
    cases t with
    | true =>
      gi_wp2
      refine ⟨KF2.out, KP2.out, ⟨⟨?_, S2.out⟩, BW2.out⟩⟩
      rw [List.map_append]
      exact foldlM_snoc hv (by simp [nodeS, ht])
    | false =>
      gi_wp2
      refine ⟨KF2.out.trans ((KeepsOthers.setCell _ _ _).from _), rfl, ⟨?_, Boxed.set _ S2.out⟩, BW2.out.setCell (p := ⟨w.heap.size + 1, 0, none⟩) (by simp) _⟩
      rw [List.map_append]
      exact foldlM_snoc hv (by simp [nodeS, ht])
  case done =>
    rintro D ys W hD hS ⟨⟨hv, hbx⟩, hBW⟩ hK
    have hc := hbx.cell
    have hfz := hbx.frozen
    gi_wp2
    have hK' := (KeepsOthers.setCell W ⟨w.heap.size + 1, 0, none⟩ (.int .i64 0)).same D _ hK rfl
    refine ⟨by simp, .inl ⟨_, _, rfl, run_takeDeferred hK', ?_⟩⟩
    have hc5 := cell_kept (Boxed.cell (Boxed.set (.int .i64 0) hbx)) (grownBy_putObj' _ D (.deferred none)) (fun r e => by cases e; exact ⟨_, hK', rfl⟩)
    rw [hS] at hv
    refine ⟨.int .i64 0, by simp [results, Tryd.results18, go_sem, hc5], by rw [hrr.out, Option.some.inj (hu.symm.trans hv)]; rfl, ?_⟩
    have hB5 := hBW.setCell (p := ⟨w.heap.size + 1, 0, none⟩) (by simp) (.int .i64 0)
    exact hB5.trans (belowK_b (w := w) (Nat.le_refl _) _ D _ _ (by have := B4.size; omega) hK' rfl rfl)
  case stop =>
    rintro D c pre W hD hSp ⟨rfl, ⟨hv, hbx⟩, hBW⟩ hK
    gi_wp2
    refine ⟨by simp, .inl ⟨_, _, rfl, run_takeDeferred hK, ?_⟩⟩
    have hc5 := cell_kept hbx.cell (grownBy_putObj' _ D (.deferred none)) (fun r e => by cases e; exact ⟨_, hK, rfl⟩)
    have hu2 : u = false := by
      obtain ⟨r, hr⟩ := hSp
      rw [← hr, List.foldlM_append, hv] at hu
      exact nodeS_false hu
    refine ⟨.int .i64 8, by simp [results, Tryd.results18, go_sem, hc5], by rw [hrr.out, hu2]; rfl, ?_⟩
    exact hBW.trans (belowK_b (w := w) (Nat.le_refl _) _ D _ _ (by have := B4.size; omega) hK rfl rfl)
theorem contract_Check.calls (k : Nat) (w : World) {Q : S29 → Prop} (x : Nd w Q) (r : Int) (hG : ShG w) (hP : PtG w) (h : contract_Check.f k x.c = some r) :
    Calls Tryd.prog 18 #[.agg x.cells] w fun e w' => e = .returned (.int .i64 r) ∧ Below w.heap.size w w' := by
  obtain ⟨s, hs, h1⟩ := Option.bind_eq_some_iff.mp h
  by_cases c1 : s > 500
  · rw [if_pos c1] at h1
    obtain rfl := Option.some.inj h1
    exact h_check_many1 k w x s hs c1
  rw [if_neg c1] at h1
  obtain ⟨d, hd, h2⟩ := Option.bind_eq_some_iff.mp h1
  by_cases c2 : d > 60
  · rw [if_pos c2] at h2
    obtain rfl := Option.some.inj h2
    exact h_check_many2 k w x s hs c1 d hd c2
  rw [if_neg c2] at h2
  obtain ⟨L, hL, h3⟩ := Option.bind_eq_some_iff.mp h2
  obtain ⟨u, hu, h4⟩ := Option.bind_eq_some_iff.mp h3
  exact h_check_loop k w x s hs c1 d hd c2 L hL u hu r ⟨(Option.some.inj h4).symm⟩ hG hP

end Go.Proofs.YtalaekadkjhldaaDoor.Pr
