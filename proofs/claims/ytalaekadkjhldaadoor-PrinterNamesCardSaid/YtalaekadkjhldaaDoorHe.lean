/- A part of the proof of the statement PrinterNames (the printer's examples, further texts and errors): contracts of functions of the program, proved by walking their text. -/
import Derived.Test.YtalaekadkjhldaaDoorPn0
import Derived.Test.YtalaekadkjhldaaDoorPn1
import Derived.Test.YtalaekadkjhldaaDoorPn2
import Derived.Test.YtalaekadkjhldaaDoorPn3
import Derived.Test.YtalaekadkjhldaaDoorPn4
import Derived.Test.YtalaekadkjhldaaDoorPn5
import Derived.Test.YtalaekadkjhldaaDoorPn6
import Derived.Outline
import Derived.Deep.RegionWith
import Derived.Laws.EntriesVeiled
import Derived.RangeFuncNested
import Derived.RangeFuncBound
import Derived.RangeFuncCalls
import Derived.RangeFuncLeaves
import Derived.Shelf.Abstract
import Derived.Shelf.RegionOpen
import Derived.WalkKit
import Derived.OwnWalkIn
import Derived.TacticsInMore
import Derived.LoopNIn
import Derived.LoopIn
import Derived.Test.YtalaekadkjhldaaDoorShelf
import Derived.Test.YtalaekadkjhldaaDoorHa
import Derived.Test.YtalaekadkjhldaaDoorHb
namespace Go.Proofs.YtalaekadkjhldaaDoor.Pr
open Go.RowKit Go.Proofs.YtalaekadkjhldaaDoorW.PrintWords Go.Proofs.YtalaekadkjhldaaDoorW.PrintLast Go.Proofs.YtalaekadkjhldaaDoorW.PrintMore
attribute [local go_sem] max2_int min2_int max_two min_two max_three min_three max_four min_four
set_option linter.unusedVariables false
set_option linter.unusedSimpArgs false
-- IMPORT Derived.Outline Derived.Deep.RegionWith
set_option maxHeartbeats 2000000 in
set_option maxRecDepth 100000 in
theorem h_node1 (p q : Int) (b : Nat) (t : Bool) (w : World) (hb : w.cell? ⟨b, 0, none⟩ = some (.int .i64 p)) (hq : (bits .and .i64 p q != 0) = t) :
    Calls Tryd.prog 47 #[.int .i64 q, .pointer (some ⟨b, 0, none⟩)] w fun e w' => e = .returned (.bool t) ∧ w' = w := by
  subst hq
  go_enter Tryd.func47, Tryd.ntmps47
  go_wp2
  go_ret
  exact ⟨rfl, rfl⟩
set_option maxHeartbeats 2000000 in
set_option maxRecDepth 100000 in
theorem h_node2_yes (k : Nat) (p q : Int) (b c : Nat) (s : ByteArray) (t : Bool) (w : World) (hb : w.cell? ⟨b, 0, none⟩ = some (.int .i64 p)) (hc : w.cell? ⟨c, 0, none⟩ = some (.func (.func 47) #[] #[.pointer (some ⟨b, 0, none⟩)])) (hq : (bits .and .i64 p q != 0) = true) (hf : observable_Name.f k s = some t) :
    Calls Tryd.prog 48 #[.int .i64 q, .string s, .pointer (some ⟨c, 0, none⟩)] w fun e w' => e = .returned (.bool t) ∧ Below w.heap.size w w' := by
  have HF := Aside0.mk hf
  have HB := Aside0.mk hb
  have HC := Aside0.mk hc
  have HQ := Aside0.mk hq
  clear hq hf hb
  go_enter Tryd.func48, Tryd.ntmps48
  go_wp2_with (first
    | (go_at_call 47; refine (h_node1 p q b true _ HB.out HQ.out).mono ?_; rintro e w1 ⟨rfl, rfl⟩)
    | (go_at_call 24; refine (observable_Name.calls k _ _ _ HF.out).mono ?_; rintro e w2 ⟨rfl, hd⟩; have B2 := Aside0.mk hd.below; clear hd; have hc := pw_cell_below B2.out HC.out; have HB2 := Aside0.mk (pw_cell_below B2.out HB.out); cases t)
    | (go_at_call 47; refine (h_node1 p q b true _ HB2.out HQ.out).mono ?_; rintro e w1 ⟨rfl, rfl⟩))
  all_goals
    go_ret
    exact ⟨rfl, B2.out⟩
set_option maxHeartbeats 2000000 in
set_option maxRecDepth 100000 in
theorem h_node2_no (p q : Int) (b c : Nat) (s : ByteArray) (t : Bool) (w : World) (hb : w.cell? ⟨b, 0, none⟩ = some (.int .i64 p)) (hc : w.cell? ⟨c, 0, none⟩ = some (.func (.func 47) #[] #[.pointer (some ⟨b, 0, none⟩)])) (hq : (bits .and .i64 p q != 0) = false) (hf : s.toList.isEmpty = t) :
    Calls Tryd.prog 48 #[.int .i64 q, .string s, .pointer (some ⟨c, 0, none⟩)] w fun e w' => e = .returned (.bool t) ∧ w' = w := by
  subst hf
  have HB := Aside0.mk hb
  have HQ := Aside0.mk hq
  clear hq hb
  go_enter Tryd.func48, Tryd.ntmps48
  go_wp2_with (first
    | (go_at_call 47; refine (h_node1 p q b false _ HB.out HQ.out).mono ?_; rintro e w1 ⟨rfl, rfl⟩))
  go_ret
  exact ⟨rfl, rfl⟩
def hasB (p q : Int) : Bool := bits .and .i64 p q != 0
def wordF (k : Nat) (p q : Int) (s : ByteArray) : Option Bool := if hasB p q = true then observable_Name.f k s else some s.toList.isEmpty
theorem h_node2 (k : Nat) (p q : Int) (b c : Nat) (s : ByteArray) (t : Bool) (w : World) (hb : w.cell? ⟨b, 0, none⟩ = some (.int .i64 p)) (hc : w.cell? ⟨c, 0, none⟩ = some (.func (.func 47) #[] #[.pointer (some ⟨b, 0, none⟩)])) (hf : wordF k p q s = some t) :
    Calls Tryd.prog 48 #[.int .i64 q, .string s, .pointer (some ⟨c, 0, none⟩)] w fun e w' => e = .returned (.bool t) ∧ Below w.heap.size w w' := by
  unfold wordF at hf
  split at hf
  · rename_i h
    exact h_node2_yes k p q b c s t w hb hc h hf
  · rename_i h
    refine (h_node2_no p q b c s t w hb hc (by simpa [hasB] using h) (Option.some.inj hf)).mono ?_
    rintro e w' ⟨rfl, rfl⟩
    exact ⟨rfl, Below.refl _ _⟩
def partsV (k : Int) : Int := if k = 2 then 15 else if k = 3 then 256 else if k = 4 then 136 else if k = 5 then 272 else if k = 6 then 160 else if k = 7 then 261 else if k = 8 then 197 else if k = 9 then 208 else if k = 10 then 208 else 0
def partsB (k : Int) : Bool := decide (1 ≤ k ∧ k ≤ 10)
/-- The variable 'parts' reads as it was laid. -/
structure PtG (w : World) : Prop where
  out : ∃ mb, w.cell? ⟨0, 0, none⟩ = some (.map (some mb)) ∧ ∀ k : Int, 0 ≤ k → k < 256 →
    ∀ W, Below w.heap.size w W → (Instr.lookup 81 (.map (some mb)) (.int .u8 k) true).run Tryd.prog W = .ok (.tuple #[.int .i64 (partsV k), .bool (partsB k)]) W
theorem PtG.below {w W : World} (h : PtG w) (hb : Below w.heap.size w W) : PtG W := by
  obtain ⟨mb, hc, h⟩ := h.out
  exact ⟨mb, (hb.cell (World.block_lt_of_cell? w _ hc)).trans hc, fun k h0 h1 W' hW => h k h0 h1 W' (below_then hb hb.size hW)⟩
def contract_node.f (k : Nat) (a0 : Int) (f1 f2 f3 : ByteArray) (e0 : Int) (e1 e2 : ByteArray) (e3 : Int) (l8 : List S25) (d : Int) (ds : List Int) (subs : List S29) : Option Bool :=
  if 0 ≤ a0 ∧ a0 < 256 then if partsB a0 = true then
    (wordF k (partsV a0) 1 f1).bind fun t1 => if t1 = false then some false else
    (wordF k (partsV a0) 2 f2).bind fun t2 => if t2 = false then some false else
    (wordF k (partsV a0) 4 f3).bind fun t3 => if t3 = false then some false else
    if hasB (partsV a0) 2 = true ∧ f1.toList = f2.toList then some false else
    (if hasB (partsV a0) 8 = true then observable_Number.f k e0 e1 e2 e3 l8 else if hasB (partsV a0) 16 = true then observable_Truth.f k e0 e1 e2 e3 l8 else contract_bare.f e0 e1 e2 e3 l8).bind fun ok =>
    (if hasB (partsV a0) 32 = true then contract_within.f d else some (d == 0)).bind fun right =>
    (if hasB (partsV a0) 64 = true then contract_days.f k ds else some ((ds.length : Int) == 0)).bind fun list =>
    some (ok && right && list && ((subs.length : Int) == if hasB (partsV a0) 256 = true then 2 else if hasB (partsV a0) 128 = true then 1 else 0))
  else some false else none

-- IMPORT Derived.Outline Derived.Deep.RegionWith Derived.Laws.EntriesVeiled
theorem h_box12 {W : World} {g : Nat} {v0 v1 v2 v3 v4 v5 v6 v7 v8 v9 v10 v11 : Value} {t : TypeId} (h : W.heap[g]? = some (.cells #[v0, v1, v2, v3, v4, v5, v6, v7, v8, v9, v10, v11] t (0, 0))) :
    W.cell? ⟨g, 0, none⟩ = some v0 ∧ W.cell? ⟨g, 1, none⟩ = some v1 ∧ W.cell? ⟨g, 2, none⟩ = some v2 ∧ W.cell? ⟨g, 3, none⟩ = some v3 ∧ W.cell? ⟨g, 4, none⟩ = some v4 ∧ W.cell? ⟨g, 5, none⟩ = some v5 ∧ W.cell? ⟨g, 6, none⟩ = some v6 ∧ W.cell? ⟨g, 7, none⟩ = some v7 ∧ W.cell? ⟨g, 8, none⟩ = some v8 ∧ W.cell? ⟨g, 9, none⟩ = some v9 ∧ W.cell? ⟨g, 10, none⟩ = some v10 ∧ W.cell? ⟨g, 11, none⟩ = some v11 :=
  ⟨(blk_cell h 0).trans rfl, (blk_cell h 1).trans rfl, (blk_cell h 2).trans rfl, (blk_cell h 3).trans rfl, (blk_cell h 4).trans rfl, (blk_cell h 5).trans rfl, (blk_cell h 6).trans rfl, (blk_cell h 7).trans rfl, (blk_cell h 8).trans rfl, (blk_cell h 9).trans rfl, (blk_cell h 10).trans rfl, (blk_cell h 11).trans rfl⟩
theorem h_three (w : World) (cs : Obj) (u v : Value) (t1 t2 : TypeId) : Below w.heap.size w (((w.alloc cs).alloc (.cells #[u] t1)).alloc (.cells #[v] t2)) ∧
    (((w.alloc cs).alloc (.cells #[u] t1)).alloc (.cells #[v] t2)).heap[w.heap.size]? = some cs ∧
    (((w.alloc cs).alloc (.cells #[u] t1)).alloc (.cells #[v] t2)).heap[w.heap.size + 1]? = some (.cells #[u] t1 (0, 0)) ∧
    (((w.alloc cs).alloc (.cells #[u] t1)).alloc (.cells #[v] t2)).heap[w.heap.size + 1 + 1]? = some (.cells #[v] t2 (0, 0)) := by
  have k0 := blk_new w cs
  have b1 := below_alloc (Below.refl (w.alloc cs).heap.size (w.alloc cs)) (.cells #[u] t1)
  have k1 := blk_new (w.alloc cs) (.cells #[u] t1)
  have b2 := below_alloc (Below.refl ((w.alloc cs).alloc (.cells #[u] t1)).heap.size ((w.alloc cs).alloc (.cells #[u] t1))) (.cells #[v] t2)
  have k2 := blk_new ((w.alloc cs).alloc (.cells #[u] t1)) (.cells #[v] t2)
  refine ⟨below_step (below_step (below_alloc (Below.refl w.heap.size w) cs) b1) b2, blk_below (blk_below k0 b1) b2, ?_, ?_⟩
  · have := blk_below k1 b2
    simpa using this
  · simpa using k2

-- IMPORT Derived.RangeFuncNested Derived.RangeFuncBound Derived.RangeFuncCalls Derived.RangeFuncLeaves Derived.Shelf.Abstract Derived.Shelf.RegionOpen Derived.WalkKit Derived.OwnWalkIn Derived.TacticsInMore Derived.LoopNIn Derived.LoopIn Derived.Laws.EntriesVeiled
open Go.Shelf
attribute [local go_sem] Oper.semAt_some
/-- A contract that lies in w0, as a value. -/
structure Nd (w0 : World) (Q : S29 → Prop) where
  c : S29
  ok : Q c
  A8 : Option Addr
  c8 : Nat
  A10 : Option Addr
  c10 : Nat
  A11 : Option Addr
  c11 : Nat
  r8 : Kd.C k25 w0 A8 c.f4.f4.length c.f4.f4
  h8 : c.f4.f4.length ≤ c8
  r10 : Kd.C (Kd.int .i64) w0 A10 c.f6.length c.f6
  h10 : c.f6.length ≤ c10
  r11 : Kd.C k29 w0 A11 c.f7.length c.f7
  h11 : c.f7.length ≤ c11
def Nd.cells {w0 : World} {Q : S29 → Prop} (x : Nd w0 Q) : Array Value := #[.int .u8 x.c.f0, .string x.c.f1, .string x.c.f2, .string x.c.f3, .int .u8 x.c.f4.f0, .string x.c.f4.f1, .string x.c.f4.f2, .int .i64 x.c.f4.f3, .slice x.A8 x.c.f4.f4.length x.c8, .int .i64 x.c.f5, .slice x.A10 x.c.f6.length x.c10, .slice x.A11 x.c.f7.length x.c11]
mutual
/-- The nodes, in the order in which they are visited. -/
def preF : Nat → S29 → Option (List S29)
  | 0, _ => none
  | k + 1, c => (preL k c.f7 0).bind fun l => some (c :: l)
def preL : Nat → List S29 → Int → Option (List S29)
  | 0, _, _ => none
  | k + 1, xs, i => if i < (xs.length : Int) then (preF k (rd_T29 xs i)).bind fun a => (preL k xs (i + 1)).bind fun b => some (a ++ b) else some []
end
/-- What a round keeps: all cells but those of block b; what lay below n₀. -/
def KpN (n₀ b : Nat) (W W' : World) : Prop := Below n₀ W W' ∧ ∀ i o, i ≠ b → o.isCells = true → W.heap[i]? = some o → W'.heap[i]? = some o
theorem KpN.refl (n₀ b : Nat) (W : World) : KpN n₀ b W W := ⟨Below.refl _ _, fun _ _ _ _ h => h⟩
theorem KpN.trans {n₀ b : Nat} {A B C : World} (h : KpN n₀ b A B) (k : KpN n₀ b B C) : KpN n₀ b A C := ⟨h.1.trans k.1, fun i o hi ho hw => k.2 i o hi ho (h.2 i o hi ho hw)⟩
theorem KpN.put {n₀ b : Nat} {w : World} (hn : n₀ ≤ w.heap.size) (W : World) (l : Nat) (o o' : Obj) (hl : w.heap.size ≤ l) (h : W.heap[l]? = some o) (hc : o.isCells = false) (hw : o.isWalk = false) : KpN n₀ b W (W.putObj l o') := by
  refine ⟨belowK_b hn W l o o' hl h hc hw, fun i u hi hu hiw => ?_⟩
  have hne : i ≠ l := fun e => by subst e; rw [h] at hiw; cases hiw; rw [hc] at hu; cases hu
  exact (World.putObj_heap_other hne).trans hiw
theorem KpN.of_below {n₀ b : Nat} {W W' : World} (hn : n₀ ≤ W.heap.size) (h : Below W.heap.size W W') : KpN n₀ b W W' :=
  ⟨h.mono hn, fun i o _ _ hi => (h.block i (Array.getElem?_eq_some_iff.1 hi).1).trans hi⟩
theorem preF_head {k : Nat} {c : S29} {L : List S29} (h : preF k c = some L) : c ∈ L := by
  cases k with
  | zero => exact absurd h (by simp [preF])
  | succ k =>
    simp only [preF] at h
    obtain ⟨l, _, h2⟩ := Option.bind_eq_some_iff.mp h
    obtain rfl := Option.some.inj h2
    exact List.mem_cons_self
set_option maxRecDepth 100000 in
set_option maxHeartbeats 4000000 in
theorem h_visit_in (w0 : World) (Q : S29 → Prop) (l N b : Nat) (J Jx : List (Nd w0 Q) → World → Prop) (hJa : ∀ s W o, J s W → J s (W.alloc o))
    (hY : ∀ m pre x W, J pre W → pre.length < N → YieldAt Fence.wide m Tryd.prog l #[.agg x.cells] W fun e W' =>
      (e = .returned (.bool true) ∧ J (pre ++ [x]) W' ∧ KpN w0.heap.size b W W') ∨ (e = .returned (.bool false) ∧ Jx (pre ++ [x]) W')) (hb : w0.heap.size ≤ b) (k : Nat) :
    ∀ (n : Nat) (x : Nd w0 Q) (L : List S29) (pre : List (Nd w0 Q)) (W : World), Below w0.heap.size w0 W → b < W.heap.size → preF k x.c = some L → (∀ c ∈ L, Q c) → J pre W → pre.length + L.length ≤ N →
      CallsIn Fence.wide n Tryd.prog 46 #[.agg x.cells, .func (.yield l) #[] #[]] W fun e W' =>
        (e = .returned (.bool true) ∧ ∃ ys : List (Nd w0 Q), ys.map (·.c) = L ∧ J (pre ++ ys) W' ∧ KpN w0.heap.size b W W') ∨ (e = .returned (.bool false) ∧ ∃ ys : List (Nd w0 Q), ys.map (·.c) <+: L ∧ Jx (pre ++ ys) W') := by
  induction k using Nat.strongRecOn with
  | _ k ih =>
  intro n x L pre W hB hbW hf hQ hJ hN
  cases k with
  | zero => exact absurd hf (by simp [preF])
  | succ k =>
  simp only [preF] at hf
  obtain ⟨L1, hl, hf2⟩ := Option.bind_eq_some_iff.mp hf
  obtain rfl := Option.some.inj hf2
  clear hf hf2
  have hdd : ∀ k : Nat, (Fence.wide.depth.isSome = true → 1 ≤ k) := fun k h => by cases h
  have hp := hY (n - 1) pre x (W.alloc (.cells x.cells 29)) (hJa _ _ _ hJ) (by simp at hN; omega)
  have hB1 := below_step hB (below_alloc (Below.refl W.heap.size W) (.cells x.cells 29))
  have hk1 := blk_new W (.cells x.cells 29)
  have hm : x.c.f7.length ≤ 9223372036854775807 := Kd.C_len_le x.r11
  obtain ⟨fn, tmps, assign, body, hy, hR⟩ := hp
  unfold Nd.cells at hk1
  obtain ⟨x0, x1, x2, x3, x4, x5, x6, x7, x8, x9, x10, x11⟩ := h_box12 hk1
  unfold Nd.cells at hy ⊢
  have HIH := Aside0.mk ih
  have HYY := Aside0.mk hY
  have HJA := Aside0.mk hJa
  clear ih hY hJa
  refine callsIn_of_wp Tryd.func46 rfl trivial ?_ rfl
  simp only [Tryd.ntmps46, List.size_toArray, List.length_cons, List.length_nil, Nat.reduceAdd, Nat.reduceSub, Array.replicate_succ, Array.replicate_zero, List.push_toArray, List.append_toArray, List.nil_append, List.cons_append]
  gi_wp2_with (first
    | ((try refine ⟨hdd _, ?_⟩); refine hR.mono ?_; clear hR; rintro e W2 (⟨rfl, hJ2, hk2⟩ | ⟨rfl, hx2⟩); (have K2 := hk2.2 _ _ (Nat.ne_of_gt hbW) rfl hk1; have B2 := Aside0.mk (hB1.trans hk2.1); have KP2 := Aside0.mk hk2; have J2 := Aside0.mk hJ2; clear hk2 hJ2; obtain ⟨x0, x1, x2, x3, x4, x5, x6, x7, x8, x9, x10, x11⟩ := h_box12 K2)))
  · clear x0 x1 x2 x3 x4 x5 x6 x7 x8 x9 x10 x11 K2 hk1
    gi_loopw [14] (fun p wr => ∃ i : Int, p = .int .i64 i ∧ 0 ≤ i ∧ Aside0 (∃ kq ys rest, kq ≤ k ∧ preL kq x.c.f7 i = some rest ∧ ys.map (·.c) ++ rest = x.c :: L1 ∧ J (pre ++ ys) wr ∧ KpN w0.heap.size b W wr ∧ Below w0.heap.size w0 wr))
      (fun p _ => x.c.f7.length - (intOf p).toNat)
    case atStart => exact ⟨0, rfl, Int.le_refl _, ⟨k, [x], L1, Nat.le_refl _, hl, rfl, J2.out, (KpN.of_below hB.size (below_alloc (Below.refl W.heap.size W) _)).trans KP2.out, B2.out⟩⟩
    case round =>
      obtain ⟨i, rfl, i0, HA⟩ := hrel
      obtain ⟨kq, ys, rest, hkq, hpl, hys, hJr, hkr, hBr⟩ := HA.out
      cases kq with
      | zero => exact absurd hpl (by simp [preL])
      | succ kq =>
      simp only [preL] at hpl
      by_cases ci : i < (x.c.f7.length : Int)
      · rw [if_pos ci] at hpl
        obtain ⟨a, ha, hp2⟩ := Option.bind_eq_some_iff.mp hpl
        obtain ⟨r, hr, hp3⟩ := Option.bind_eq_some_iff.mp hp2
        have hrest := Option.some.inj hp3
        clear hpl hp2 hp3 HA
        have hlt : i < (x.c.f7.length : Int) := ci
        obtain ⟨ad, A8, c8, A10, c10, A11, c11, e5, p0, p1, p2, p3, p4, p5, p6, p7, p8, p9, p10, p11, q8, g8, q10, g10, q11, g11⟩ := at_T29 x.r11 i i0 ci
        have BR := Aside0.mk hBr
        have JR := Aside0.mk hJr
        have KR := Aside0.mk hkr
        have HYS := Aside0.mk hys
        have HRE := Aside0.mk hrest
        have HR := Aside0.mk hr
        have KQ := Aside0.mk hkq
        replace p0 := pw_cell_below hBr p0
        replace p1 := pw_cell_below hBr p1
        replace p2 := pw_cell_below hBr p2
        replace p3 := pw_cell_below hBr p3
        replace p4 := pw_cell_below hBr p4
        replace p5 := pw_cell_below hBr p5
        replace p6 := pw_cell_below hBr p6
        replace p7 := pw_cell_below hBr p7
        replace p8 := pw_cell_below hBr p8
        replace p9 := pw_cell_below hBr p9
        replace p10 := pw_cell_below hBr p10
        replace p11 := pw_cell_below hBr p11
        have hyQ : Q (rd_T29 x.c.f7 i) := hQ _ (by rw [← hys, ← hrest]; simp [preF_head ha])
        obtain ⟨y, hy⟩ : ∃ y : Nd w0 Q, y = ⟨rd_T29 x.c.f7 i, hyQ, A8, c8, A10, c10, A11, c11, g8, q8, g10, q10, g11, q11⟩ := ⟨_, rfl⟩
        have hcs : y.cells = #[.int .u8 (rd_T29 x.c.f7 i).f0, .string (rd_T29 x.c.f7 i).f1, .string (rd_T29 x.c.f7 i).f2, .string (rd_T29 x.c.f7 i).f3, .int .u8 (rd_T29 x.c.f7 i).f4.f0, .string (rd_T29 x.c.f7 i).f4.f1, .string (rd_T29 x.c.f7 i).f4.f2, .int .i64 (rd_T29 x.c.f7 i).f4.f3, .slice A8 (rd_T29 x.c.f7 i).f4.f4.length c8, .int .i64 (rd_T29 x.c.f7 i).f5, .slice A10 (rd_T29 x.c.f7 i).f6.length c10, .slice A11 (rd_T29 x.c.f7 i).f7.length c11] := by rw [hy]; rfl
        have hyc : y.c = rd_T29 x.c.f7 i := by rw [hy]
        have hcall := HIH.out kq (by omega) (n - 1) y a (pre ++ ys) (wr.alloc (.cells y.cells 29)) (below_step hBr (below_alloc (Below.refl wr.heap.size wr) _)) (Nat.lt_of_lt_of_le hbW (Nat.le_trans hkr.1.size (below_alloc (Below.refl wr.heap.size wr) _).size)) (by rw [hyc]; exact ha) (fun c hc => hQ c (by rw [← hys, ← hrest]; simp [hc])) (HJA.out _ _ _ hJr) (by have h1 := congrArg List.length hys; rw [← hrest] at h1; simp at h1 hN ⊢; omega)
        rw [hcs] at hcall
        clear hBr hJr hkr hys hrest hr hkq hy q8 g8 q10 g10 q11 g11 ha
        rw [e5]
        have cib : decide (i < (x.c.f7.length : Int)) = true := decide_eq_true ci
        gi_wp2
        refine ⟨trivial, hdd _, hcall.mono ?_⟩
        clear hcall
        rintro e W3 (⟨rfl, zs, hz, hJ3, hk3⟩ | ⟨rfl, zs, hz, hx3⟩)
        · have BW := Aside0.mk (below_alloc (Below.refl wr.heap.size wr) (.cells #[.int .u8 (rd_T29 x.c.f7 i).f0, .string (rd_T29 x.c.f7 i).f1, .string (rd_T29 x.c.f7 i).f2, .string (rd_T29 x.c.f7 i).f3, .int .u8 (rd_T29 x.c.f7 i).f4.f0, .string (rd_T29 x.c.f7 i).f4.f1, .string (rd_T29 x.c.f7 i).f4.f2, .int .i64 (rd_T29 x.c.f7 i).f4.f3, .slice A8 (rd_T29 x.c.f7 i).f4.f4.length c8, .int .i64 (rd_T29 x.c.f7 i).f5, .slice A10 (rd_T29 x.c.f7 i).f6.length c10, .slice A11 (rd_T29 x.c.f7 i).f7.length c11] 29))
          have hk4 := (KR.out.trans (KpN.of_below (b := b) (Nat.le_trans hB.size KR.out.1.size) BW.out)).trans hk3
          gi_wp2
          go_roundw
          case rel =>
            refine ⟨i + 1, by go_num, by omega, ⟨kq, ys ++ zs, r, by have := KQ.out; omega, HR.out, ?_, by rw [← List.append_assoc]; exact hJ3, hk4, (BR.out.trans (BW.out.mono (Nat.le_trans hB.size KR.out.1.size))).trans hk3.1⟩⟩
            rw [← HYS.out, ← HRE.out, List.map_append, hz, List.append_assoc]
          case measure => simp [intOf]; omega
        · gi_wp2
          go_ret
          refine .inr ⟨rfl, ys ++ zs, ?_, by rw [← List.append_assoc]; exact hx3⟩
          obtain ⟨u, hu⟩ := hz
          rw [← HYS.out, ← HRE.out, ← hu, List.map_append]
          exact ⟨u ++ r, by simp⟩
      · rw [if_neg ci] at hpl
        obtain rfl := Option.some.inj hpl
        have cib : decide (i < (x.c.f7.length : Int)) = false := decide_eq_false ci
        gi_wp2
        go_ret
        exact .inl ⟨rfl, ys, by simpa using hys, hJr, hkr⟩
  · gi_wp2
    go_ret
    exact .inr ⟨rfl, [x], ⟨L1, rfl⟩, hx2⟩

-- IMPORT Derived.RangeFuncNested Derived.RangeFuncBound Derived.RangeFuncCalls Derived.RangeFuncLeaves Derived.Shelf.Abstract Derived.Shelf.RegionOpen Derived.WalkKit Derived.OwnWalkIn Derived.TacticsInMore Derived.LoopNIn Derived.LoopIn Derived.Laws.EntriesVeiled
open Go.Shelf
attribute [local go_sem] Oper.semAt_some
theorem roundIn_anyDepth {m m' : Nat} {P : Program} {l : Nat} {f : FuncId} {tmps : Array Value} {assign body : Code} {w : World} {R : Ending → World → Prop}
    (h : RoundIn Fence.wide m P l f tmps assign body w R) : RoundIn Fence.wide m' P l f tmps assign body w R := ⟨h.1, fun c cs _ => h.2 c cs (fun d e => by cases e)⟩
theorem yieldAt_anyDepth {m : Nat} (m' : Nat) {P : Program} {l : Nat} {args : Array Value} {W : World} {R : Ending → World → Prop} (h : YieldAt Fence.wide m P l args W R) : YieldAt Fence.wide m' P l args W R := by
  obtain ⟨fn, tmps, assign, body, hy, hR⟩ := h
  exact ⟨fn, tmps, assign, body, hy, roundIn_anyDepth hR⟩
set_option maxRecDepth 100000 in
set_option maxHeartbeats 1000000 in
theorem h_nodes_in (n : Nat) {w0 : World} {Q : S29 → Prop} (x : Nd w0 Q) (w : World) : CallsIn Fence.wide n Tryd.prog 29 #[.agg x.cells] w fun e w' => e = .returned (.func (.func 45) #[] #[.pointer (some ⟨w.heap.size, 0, none⟩)]) ∧ w' = w.alloc (.cells x.cells 29) := by
  unfold Nd.cells
  refine callsIn_of_wp Tryd.func29 rfl trivial ?_ rfl
  simp only [Tryd.ntmps29, List.size_toArray, List.length_cons, List.length_nil, Nat.reduceAdd, Nat.reduceSub, Array.replicate_succ, Array.replicate_zero, List.push_toArray, List.append_toArray, List.nil_append, List.cons_append]
  gi_wp2
  go_ret
  exact ⟨rfl, rfl⟩
set_option maxRecDepth 100000 in
set_option maxHeartbeats 4000000 in
theorem h_nodes_stops (n : Nat) {w0 : World} {Q : S29 → Prop} (x : Nd w0 Q) (L : List S29) (k b g : Nat) (w : World) (hg : w.heap[g]? = some (.cells x.cells 29 (0, 0))) (hB : Below w0.heap.size w0 w) (hb : w0.heap.size ≤ b) (hbw : b < w.heap.size) (hf : preF k x.c = some L) (hQ : ∀ c ∈ L, Q c) :
    SeqStopsK Fence.wide n Tryd.prog 45 #[.pointer (some ⟨g, 0, none⟩)] (fun y : Nd w0 Q => #[Value.agg y.cells]) (KpN w0.heap.size b) (fun ys => ys.map (·.c) = L) (fun ys => ys.map (·.c) <+: L) L.length w := by
  intro l J Jx W hW hJ hJx hY h0
  have hdd : ∀ k : Nat, (Fence.wide.depth.isSome = true → 1 ≤ k) := fun k h => by cases h
  have hp := h_visit_in w0 Q l L.length b J Jx (fun s V o hs => hJ s V _ none hs (World.grownBy_alloc V o none) (fun r e => by cases e)) (fun m pre y V hj hl => yieldAt_anyDepth m (hY pre y V hj hl)) hb k (n - 1) x L [] W (below_step hB hW) (Nat.lt_of_lt_of_le hbw hW.size) hf hQ h0 (by simp)
  have hg2 := blk_below hg hW
  unfold Nd.cells at hg2 hp
  obtain ⟨x0, x1, x2, x3, x4, x5, x6, x7, x8, x9, x10, x11⟩ := h_box12 hg2
  refine callsIn_of_wp Tryd.func45 rfl trivial ?_ rfl
  simp only [Tryd.ntmps45, List.size_toArray, List.length_cons, List.length_nil, Nat.reduceAdd, Nat.reduceSub, Array.replicate_succ, Array.replicate_zero, List.push_toArray, List.append_toArray, List.nil_append, List.cons_append]
  gi_wp2
  refine ⟨trivial, hdd _, hp.mono ?_⟩
  clear hp
  rintro e W1 (⟨rfl, ys, hy, hJ1, _⟩ | ⟨rfl, ys, hy, hx⟩)
  · gi_wp2
    go_end0
    exact ⟨⟨_, rfl⟩, .inl ⟨ys, hy, by simpa using hJ1⟩⟩
  · gi_wp2
    go_end0
    exact ⟨⟨_, rfl⟩, .inr ⟨ys, hy, by simpa using hx⟩⟩

-- IMPORT Derived.RangeFuncNested Derived.RangeFuncBound Derived.RangeFuncCalls Derived.RangeFuncLeaves Derived.Shelf.Abstract Derived.Shelf.RegionOpen Derived.WalkKit Derived.OwnWalkIn Derived.TacticsInMore Derived.LoopNIn Derived.LoopIn Derived.Laws.EntriesVeiled
open Go.Shelf
attribute [local go_sem] Oper.semAt_some
theorem KpN.set {n₀ b : Nat} (h : n₀ ≤ b) (W : World) (u : Value) : KpN n₀ b W (W.setCell ⟨b, 0, none⟩ u) :=
  ⟨(Below.refl n₀ W).setCell (p := ⟨b, 0, none⟩) h _, fun i o hi _ hio => (Below.heap_setCell W ⟨b, 0, none⟩ u i hi).trans hio⟩
def sizeS (k : Nat) (n : Int) (c : S29) : Option Int :=
  (contract_bare.f c.f4.f0 c.f4.f1 c.f4.f2 c.f4.f3 c.f4.f4).bind fun t => if t = true then some (wrap64 (n + 1)) else (observable_Size.f k c.f4.f0 c.f4.f1 c.f4.f2 c.f4.f3 c.f4.f4).bind fun m => some (wrap64 (wrap64 (n + 1) + m))
def SizeQ (k : Nat) (c : S29) : Prop := ∃ t, contract_bare.f c.f4.f0 c.f4.f1 c.f4.f2 c.f4.f3 c.f4.f4 = some t ∧ (t = false → ∃ m, observable_Size.f k c.f4.f0 c.f4.f1 c.f4.f2 c.f4.f3 c.f4.f4 = some m)
theorem sizeS_Q {k : Nat} {n r : Int} {c : S29} (h : sizeS k n c = some r) : SizeQ k c := by
  unfold sizeS at h
  obtain ⟨t, ht, h2⟩ := Option.bind_eq_some_iff.mp h
  refine ⟨t, ht, fun e => ?_⟩
  subst e
  simp only [if_neg (show ¬ (false = true) by decide)] at h2
  obtain ⟨m, hm, _⟩ := Option.bind_eq_some_iff.mp h2
  exact ⟨m, hm⟩
theorem foldlM_all {α β : Type} {f : β → α → Option β} {Q : α → Prop} (hf : ∀ b a r, f b a = some r → Q a) : ∀ {l : List α} {b r : β}, l.foldlM f b = some r → ∀ a ∈ l, Q a
  | [], _, _, _, a, ha => absurd ha (by simp)
  | x :: xs, b, r, h, a, ha => by
    rw [List.foldlM_cons] at h
    obtain ⟨u, hu, h2⟩ := Option.bind_eq_some_iff.mp h
    rcases List.mem_cons.mp ha with e | e
    · subst e; exact hf b a u hu
    · exact foldlM_all hf h2 a e
theorem foldlM_snoc {α β : Type} {f : β → α → Option β} {l : List α} {x : α} {b u r : β} (h : l.foldlM f b = some u) (hx : f u x = some r) : (l ++ [x]).foldlM f b = some r := by
  rw [List.foldlM_append, h]
  show List.foldlM f u [x] = some r
  rw [List.foldlM_cons, hx]
  rfl
def contract_Size.f (k : Nat) (c : S29) : Option Int := (preF k c).bind fun L => L.foldlM (sizeS k) 0
theorem keepsFrom_below {B : Nat} {W W' : World} (h : Below W.heap.size W W') : KeepsFrom B W W' :=
  ⟨h.size, fun k o _ hk _ => (h.block k (Array.getElem?_eq_some_iff.1 hk).1).trans hk⟩
theorem own_blk {W W' : World} {row : Option Nat} {g : Nat} {cs : Array Value} {t : TypeId} {z : Nat × Nat} (h : W.heap[g]? = some (.cells cs t z)) (hg : W.grownBy W' row) (hr : ∀ r, row = some r → ∃ o : Obj, W.heap[r]? = some o ∧ o.isCells = false) : W'.heap[g]? = some (.cells cs t z) :=
  (hg.block g (Array.getElem?_eq_some_iff.1 h).1 (fun e => by obtain ⟨o, ho, hc⟩ := hr g e.symm; rw [h] at ho; cases ho; cases hc)).trans h
theorem h_size_own (w : World) (k b : Nat) {Q : S29 → Prop} (B : Nat) (hB : w.heap.size ≤ B) : OwnFrom B (fun (pre : List (Nd w Q)) (W : World) => (∃ v, (pre.map (·.c)).foldlM (sizeS k) 0 = some v ∧ Boxed W b 3 (.int .i64 v)) ∧ Below w.heap.size w W) := by
  intro s X Y row hs hg hr
  obtain ⟨⟨v, h1, h2⟩, h3⟩ := hs
  exact ⟨⟨v, h1, own_blk h2 hg (fun r e => (hr r e).2)⟩, ownFrom_below (β := Unit) (Nat.le_refl _) hB () X Y row h3 hg hr⟩
set_option maxRecDepth 100000 in
set_option maxHeartbeats 4000000 in
theorem h_size_calls (k : Nat) (w : World) (x : Nd w (SizeQ k)) (L : List S29) (r : Int) (hL : preF k x.c = some L) (hr : L.foldlM (sizeS k) 0 = some r) :
    Calls Tryd.prog 27 #[.agg x.cells] w fun e w' => e = .returned (.int .i64 r) ∧ Below w.heap.size w w' := by
  have hQ : ∀ c ∈ L, SizeQ k c := foldlM_all (fun b a r h => sizeS_Q h) hr
  have hk0 := blk_new w (.cells x.cells 29)
  have B0 := below_alloc (Below.refl w.heap.size w) (.cells x.cells 29)
  have B1 := below_step B0 (below_alloc (Below.refl (w.alloc (.cells x.cells 29)).heap.size (w.alloc (.cells x.cells 29))) (.cells #[.int .i64 0] 3))
  have hk1 := blk_below hk0 (below_alloc (Below.refl (w.alloc (.cells x.cells 29)).heap.size (w.alloc (.cells x.cells 29))) (.cells #[.int .i64 0] 3))
  have hb1 := blk_new (w.alloc (.cells x.cells 29)) (.cells #[.int .i64 0] 3)
  have hnodes := h_nodes_in (3 - 1) x ((w.alloc (.cells x.cells 29)).alloc (.cells #[.int .i64 0] 3))
  have B2 := below_step B1 (below_alloc (Below.refl ((w.alloc (.cells x.cells 29)).alloc (.cells #[.int .i64 0] 3)).heap.size ((w.alloc (.cells x.cells 29)).alloc (.cells #[.int .i64 0] 3))) (.cells x.cells 29))
  have hb2 := blk_below hb1 (below_alloc (Below.refl ((w.alloc (.cells x.cells 29)).alloc (.cells #[.int .i64 0] 3)).heap.size ((w.alloc (.cells x.cells 29)).alloc (.cells #[.int .i64 0] 3))) (.cells x.cells 29))
  have hk2 := blk_new ((w.alloc (.cells x.cells 29)).alloc (.cells #[.int .i64 0] 3)) (.cells x.cells 29)
  have hst := fun n => h_nodes_stops n x L k (w.heap.size + 1) (w.heap.size + 1 + 1) (((w.alloc (.cells x.cells 29)).alloc (.cells #[.int .i64 0] 3)).alloc (.cells x.cells 29)) (by simpa using hk2) B2 (by omega) (by simp) hL hQ
  simp only [World.size_alloc] at hb2
  unfold Nd.cells at *
  obtain ⟨x0, x1, x2, x3, x4, x5, x6, x7, x8, x9, x10, x11⟩ := h_box12 hk1
  refine (callsIn_wide (n := 3)).1 ?_
  refine callsIn_of_wp_marks Tryd.func27 rfl trivial ?_ rfl
  simp only [Tryd.ntmps27, List.size_toArray, List.length_cons, List.length_nil, Nat.reduceAdd, Nat.reduceSub, Array.replicate_succ, Array.replicate_zero, List.push_toArray, List.append_toArray, List.nil_append, List.cons_append]
  gi_wp2_with (refine ⟨trivial, ?_⟩; gi_at_call 29; refine hnodes.mono ?_; clear hnodes; rintro e w' ⟨rfl, rfl⟩)
  clear x0 x1 x2 x3 x4 x5 x6 x7 x8 x9 x10 x11 hk0 hk1 hk2 B0 B1 hb1
  generalize hW0 : (((w.alloc _).alloc _).alloc _) = W0 at hst B2 hb2 ⊢
  have hsz : W0.heap.size = w.heap.size + 1 + 1 + 1 := by rw [← hW0]; simp
  clear hW0
  refine wpIn_rangeFunc_ownH rfl (by omega) (gf := 45) (lb := #[.pointer (some ⟨w.heap.size + 1 + 1, 0, none⟩)]) rfl trivial (enters_of Tryd.func45 (by kernel_rfl) rfl) (hst _) KpN.trans (KpN.put B2.size) (Below.refl _ _) (fun _ => rfl)
    (fun (pre : List (Nd w (SizeQ k))) (W : World) => (∃ v, (pre.map (·.c)).foldlM (sizeS k) 0 = some v ∧ Boxed W (w.heap.size + 1) 3 (.int .i64 v)) ∧ Below w.heap.size w W)
    (fun _ _ _ => False) (h_size_own w k (w.heap.size + 1) W0.heap.size (by omega)) (fun _ _ _ _ _ hs _ _ => hs) ⟨⟨0, rfl, hb2⟩, B2⟩
    (fun y a' W => ∃ Bx, w.heap.size + 1 < Bx ∧ W.heap[Bx]? = some (.cells y.cells 29 (0, 0)) ∧ a' = { tmps := #[.agg x.cells, .pointer (some ⟨w.heap.size, 0, none⟩), .int .i64 0, .pointer (some ⟨w.heap.size + 1, 0, none⟩), .pointer (some ⟨Bx, 0, none⟩), .agg x.cells, .func (.func 45) #[] #[.pointer (some ⟨w.heap.size + 1 + 1, 0, none⟩)], .agg y.cells, undef, undef, undef, undef, undef, undef, undef, undef, undef, undef, undef, undef], defers := [] })
    (fun y a' s X Y row hs hg hr => by obtain ⟨Bx, h1, h2, h3⟩ := hs; exact ⟨Bx, h1, own_blk h2 hg (fun r e => (hr r e).2), h3⟩) ?assign ?body ?done ?stop
  case assign =>
    rintro l pre y W K ⟨⟨v, hv, hbx⟩, hBW⟩ hK
    have BA := below_alloc (Below.refl W.heap.size W) (.cells y.cells 29)
    have hnew := blk_new W (.cells y.cells 29)
    unfold Nd.cells at BA hnew
    gi_wp2
    refine hK _ _ (keepsFrom_below BA) (KpN.of_below hBW.size BA) ⟨⟨v, hv, blk_below hbx BA⟩, below_step hBW BA⟩ ⟨W.heap.size, hbx.lt, hnew, ?_⟩
    simp [Nd.cells]
  case body =>
    rintro l pre y a' W hl ⟨rc, hrc⟩ ⟨⟨v, hv, hbx⟩, hBW⟩ ⟨Bx, hBx, hyx, rfl⟩ hlen
    have hc := hbx.cell
    have hfz := hbx.frozen
    have hne : Bx ≠ w.heap.size + 1 := by omega
    have S1 := Aside0.mk (Boxed.set (.int .i64 (wrap64 (v + 1))) hbx)
    have Y1 := Aside0.mk ((Below.heap_setCell W ⟨w.heap.size + 1, 0, none⟩ (.int .i64 (wrap64 (v + 1))) Bx hne).trans hyx)
    have KP1 : Aside0 (KpN w.heap.size (w.heap.size + 1) W (W.setCell ⟨w.heap.size + 1, 0, none⟩ (.int .i64 (wrap64 (v + 1))))) := ⟨(Below.refl w.heap.size W).setCell (p := ⟨w.heap.size + 1, 0, none⟩) (by simp) _, fun i o hi _ hio => (Below.heap_setCell W ⟨w.heap.size + 1, 0, none⟩ (.int .i64 (wrap64 (v + 1))) i hi).trans hio⟩
    have KF1 : Aside0 (KeepsFrom W0.heap.size W (W.setCell ⟨w.heap.size + 1, 0, none⟩ (.int .i64 (wrap64 (v + 1))))) := ⟨(KeepsOthers.setCell _ _ _).from _⟩
    obtain ⟨t, ht, hsz2⟩ := y.ok
    unfold Nd.cells at Y1
    obtain ⟨x0, x1, x2, x3, x4, x5, x6, x7, x8, x9, x10, x11⟩ := h_box12 Y1.out
    unfold Nd.cells
    gi_wp2
    have BW1 := Aside0.mk (hBW.trans KP1.out.1)
    refine ⟨trivial, (CallsIn.inRound l (callsIn_wide.2 (contract_bare.calls _ _ _ _ _ _ _ t _ (Kd.C_below y.r8 BW1.out) y.h8 ht))).mono ?_⟩
    rintro e W2 ⟨rfl, hb⟩
    have BW2 := Aside0.mk (below_step BW1.out hb)
    have S2 : Aside0 (Boxed W2 (w.heap.size + 1) 3 (.int .i64 (wrap64 (v + 1)))) := ⟨blk_below S1.out hb⟩
    have Y2 := Aside0.mk (blk_below Y1.out hb)
    have KP2 := Aside0.mk (KP1.out.trans (KpN.of_below (b := w.heap.size + 1) BW1.out.size hb))
    have KF2 := Aside0.mk (KF1.out.trans (keepsFrom_below hb))
    clear hb hc hfz S1 Y1 KP1 KF1 BW1 x0 x1 x2 x3 x4 x5 x6 x7 x8 x9 x10 x11
    cases t with
    | true =>
      gi_wp2
      refine ⟨KF2.out, KP2.out, ⟨⟨wrap64 (v + 1), ?_, S2.out⟩, BW2.out⟩⟩
      rw [List.map_append]
      exact foldlM_snoc hv (by simp [sizeS, ht])
    | false =>
      obtain ⟨m, hm⟩ := hsz2 rfl
      have hmx : Tryd.prog.follows .mixedOrders = true := by kernel_rfl
      have hc : W2.drew.cell? ⟨w.heap.size + 1, 0, none⟩ = some (.int .i64 (wrap64 (v + 1))) := S2.out.cell
      have hfz : W2.drew.frozen? ⟨w.heap.size + 1, 0, none⟩ = false := S2.out.frozen
      have hY2 : W2.drew.heap[Bx]? = _ := Y2.out
      obtain ⟨x0, x1, x2, x3, x4, x5, x6, x7, x8, x9, x10, x11⟩ := h_box12 hY2
      clear hY2
      gi_wp2
      have hcall := CallsIn.inRound l (callsIn_wide (n := 0).2 (observable_Size.calls k _ _ _ _ _ _ _ m W2.drew (Kd.C_below y.r8 (below_drew1 BW2.out)) y.h8 hm))
      gi_region_with_o (refine ⟨trivial, ?_⟩; gi_at_call 37; refine hcall.mono ?_; rintro e W3 ⟨rfl, hb⟩; have BW3 := Aside0.mk (below_step (below_drew1 BW2.out) hb); have S3 := Aside0.mk (blk_below (w := W2.drew) (blk_drew S2.out) hb); have KP3 : Aside0 (KpN w.heap.size (w.heap.size + 1) W2 W3) := ⟨KpN.trans (B := W2.drew) ⟨below_drew1 (Below.refl _ _), fun _ _ _ _ h => h⟩ (KpN.of_below (W := W2.drew) BW2.out.size hb)⟩; have KF3 : Aside0 (KeepsFrom W0.heap.size W2 W3) := ⟨KeepsFrom.trans (Y := W2.drew) ⟨Nat.le_refl _, fun _ _ _ h _ => h⟩ (keepsFrom_below (W := W2.drew) hb)⟩; clear hb; have hc3 := Boxed.cell S3.out; have hfz3 := Boxed.frozen S3.out)
      all_goals gi_wp2
      all_goals (try go_bits)
      all_goals
        refine ⟨(KF2.out.trans KF3.out).trans ((KeepsOthers.setCell _ _ _).from _), (KP2.out.trans KP3.out).trans (KpN.set (by omega) _ _), ⟨⟨_, ?_, Boxed.set _ S3.out⟩, BW3.out.setCell (p := ⟨w.heap.size + 1, 0, none⟩) (by simp) _⟩⟩
        rw [List.map_append]
        exact foldlM_snoc hv (by simp only [sizeS, ht, hm, Option.bind_some]; rw [if_neg (by decide)])
  case done =>
    rintro D ys W hD hS ⟨⟨v, hv, hbx⟩, hBW⟩ hK
    have hc := hbx.cell
    gi_wp2
    refine ⟨by simp, .inl ⟨_, _, rfl, run_takeDeferred hK, ?_⟩⟩
    refine ⟨_, results_tmp rfl _ _ _, ?_, hBW.trans (belowK_b (w := w) (Nat.le_refl _) W D _ _ (by omega) hK rfl rfl)⟩
    rw [hS, hr] at hv
    rw [← Option.some.inj hv]
    rfl
  case stop =>
    rintro D c pre W hD _ h _
    exact h.elim

end Go.Proofs.YtalaekadkjhldaaDoor.Pr
