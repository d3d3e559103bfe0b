/- A part of the proof of the statement PrinterNames (the printer's examples, further texts and errors): contracts of functions of the program, proved by walking their text. -/
import Derived.Test.YtalaekadkjhldaaDoorPn0
import Derived.Test.YtalaekadkjhldaaDoorPn1
import Derived.Test.YtalaekadkjhldaaDoorPn2
import Derived.Test.YtalaekadkjhldaaDoorPn3
import Derived.Test.YtalaekadkjhldaaDoorPn4
import Derived.Test.YtalaekadkjhldaaDoorPn5
import Derived.Test.YtalaekadkjhldaaDoorPn6
import Derived.Outline
import Derived.Deep.RegionHeld3
import Derived.Test.YtalaekadkjhldaaDoorShelf
namespace Go.Proofs.YtalaekadkjhldaaDoor.Pr
open Go.RowKit Go.Proofs.YtalaekadkjhldaaDoorW.PrintWords Go.Proofs.YtalaekadkjhldaaDoorW.PrintLast Go.Proofs.YtalaekadkjhldaaDoorW.PrintMore
attribute [local go_sem] max2_int min2_int max_two min_two max_three min_three max_four min_four
set_option linter.unusedVariables false
set_option linter.unusedSimpArgs false
-- IMPORT Derived.Outline
theorem h_box5 {W : World} {g : Nat} {v0 v1 v2 v3 v4 : Value} {t : TypeId} (h : W.heap[g]? = some (.cells #[v0, v1, v2, v3, v4] t (0, 0))) :
    W.cell? ⟨g, 0, none⟩ = some v0 ∧ W.cell? ⟨g, 1, none⟩ = some v1 ∧ W.cell? ⟨g, 2, none⟩ = some v2 ∧ W.cell? ⟨g, 3, none⟩ = some v3 ∧ W.cell? ⟨g, 4, none⟩ = some v4 :=
  ⟨(blk_cell h 0).trans rfl, (blk_cell h 1).trans rfl, (blk_cell h 2).trans rfl, (blk_cell h 3).trans rfl, (blk_cell h 4).trans rfl⟩
theorem h_bcell {W w1 : World} (hb : Below W.heap.size W w1) : (∀ b o, b < W.heap.size → w1.cell? ⟨b, o, none⟩ = W.cell? ⟨b, o, none⟩) ∧ (∀ b o, b < W.heap.size → w1.frozen? ⟨b, o, none⟩ = W.frozen? ⟨b, o, none⟩) :=
  ⟨fun b o h => hb.cell (p := ⟨b, o, none⟩) h, fun b o h => hb.frozen (p := ⟨b, o, none⟩) h⟩

-- GO: novation/observable.sorted
-- IMPORT Derived.Outline Derived.Deep.RegionHeld3
/-- What the package-level variable 'shapes' says: the kinds with parts, the sorts of these, and the kinds' own sorts. -/
def shB (k : Int) : Bool := decide (4 ≤ k ∧ k ≤ 9) || decide (11 ≤ k ∧ k ≤ 15)
def shP (k : Int) : List Int := if k = 9 then [2, 1, 1] else if 4 ≤ k ∧ k ≤ 8 ∨ k = 11 ∨ k = 12 then [1, 1] else if k = 13 ∨ k = 14 then [2, 2] else if k = 15 then [2] else []
def shO (k : Int) : Int := if 4 ≤ k ∧ k ≤ 9 then 1 else if 11 ≤ k ∧ k ≤ 15 then 2 else 0
theorem shP_le (k : Int) : (shP k).length ≤ 3 := by
  unfold shP
  repeat' split
  all_goals simp
/-- The variable 'shapes' reads as it was laid. -/
structure ShG (w : World) : Prop where
  out : ∃ mb, w.cell? ⟨1, 0, none⟩ = some (.map (some mb)) ∧ ∀ k : Int, 0 ≤ k → k < 256 → ∃ A c, (shP k).length ≤ c ∧ Kd.C (Kd.int .u8) w A (shP k).length (shP k) ∧
    ∀ W, Below w.heap.size w W → (Instr.lookup 97 (.map (some mb)) (.int .u8 k) true).run Tryd.prog W = .ok (.tuple #[.agg #[.slice A (shP k).length c, .int .u8 (shO k)], .bool (shB k)]) W
theorem ShG.below {w W : World} (h : ShG w) (hb : Below w.heap.size w W) : ShG W := by
  obtain ⟨mb, hc, h⟩ := h.out
  refine ⟨mb, (hb.cell (World.block_lt_of_cell? w _ hc)).trans hc, fun k h0 h1 => ?_⟩
  obtain ⟨A, c, h2, h3, h4⟩ := h k h0 h1
  exact ⟨A, c, h2, Kd.C_below h3 hb, fun W' hW => h4 W' (below_then hb hb.size hW)⟩
mutual
def observable_sorted.l0 : Nat → List Int → Int → List (S25) → Int → Option Int
  | 0, _, _, _, _ => none
  | k + 1, ps, own, x, i => if i < (x.length : Int) then ((observable_sorted.f k (rd_T25 x i).f0 (rd_T25 x i).f1 (rd_T25 x i).f2 (rd_T25 x i).f3 (rd_T25 x i).f4).bind fun t => if t = rd ps i then observable_sorted.l0 k ps own x (i + 1) else some 0) else some own
def observable_sorted.f : Nat → Int → ByteArray → ByteArray → Int → List (S25) → Option Int
  | 0, _, _, _, _, _ => none
  | k + 1, a0, a1, a2, a3, l4 => if 0 ≤ a0 ∧ a0 < 256 then (if shB a0 = true then (if l4.length = (shP a0).length then (if a1.toList = [] then (if a2.toList = [] then (if a3 = 0 then observable_sorted.l0 k (shP a0) (shO a0) l4 0 else some 0) else some 0) else some 0) else some 0) else observable_leaf.f k a0 a1 a2 a3 l4) else none
end
set_option maxHeartbeats 8000000 in
set_option maxRecDepth 100000 in
theorem observable_sorted.calls (k : Nat) : ∀ (a0_0 : Int) (a0_1 : ByteArray) (a0_2 : ByteArray) (a0_3 : Int) (A0_4 : Option Addr) (c0_4 : Nat) (l0_4 : List (S25)) (r : Int) (w : World) (hG : ShG w) (hr0_4 : Kd.C k25 w A0_4 l0_4.length l0_4) (hc0_4 : l0_4.length ≤ c0_4) (h : observable_sorted.f k a0_0 a0_1 a0_2 a0_3 l0_4 = some r),
    Calls Tryd.prog 39 #[.agg #[.int .u8 a0_0, .string a0_1, .string a0_2, .int .i64 a0_3, .slice A0_4 l0_4.length c0_4]] w fun e w' => e = .returned (.int .u8 r) ∧ Below w.heap.size w w' := by
  induction k using Nat.strongRecOn with
  | _ k ih =>
  intro a0_0 a0_1 a0_2 a0_3 A0_4 c0_4 l0_4 r w hG hr0_4 hc0_4 h
  cases k with
  | zero => exact absurd h (by simp [observable_sorted.f])
  | succ k =>
  simp only [observable_sorted.f] at h
  by_cases hk : 0 ≤ a0_0 ∧ a0_0 < 256
  case neg => rw [if_neg hk] at h; cases h
  rw [if_pos hk] at h
  obtain ⟨mb, hg3, hl⟩ := hG.out
  obtain ⟨A, c, hAc, hAr, hlk⟩ := hl a0_0 hk.1 hk.2
  have HLK := Aside0.mk hlk
  have HAR := Aside0.mk hAr
  have HL := Aside0.mk hl
  have HG := Aside0.mk hG
  have HR := Aside0.mk hr0_4
  have IH := Aside0.mk ih
  have hgl := World.block_lt_of_cell? w _ hg3
  have hlk1 := hlk (w.alloc (.cells #[.int .u8 a0_0, .string a0_1, .string a0_2, .int .i64 a0_3, .slice A0_4 l0_4.length c0_4] 25)) (below_alloc (Below.refl _ _) _)
  clear hlk hAr hl hG hr0_4 ih
  by_cases cB : shB a0_0 = true
  · rw [if_pos cB] at h
    rw [cB] at hlk1
    have HcB := Aside0.mk cB
    clear cB
    by_cases c1 : l0_4.length = (shP a0_0).length
    · rw [if_pos c1] at h
      have c1b : ((l0_4.length : Int) != ((shP a0_0).length : Int)) = false := bne_eq_false_iff_eq.mpr (by rw [c1])
      have c1c : (l0_4.length == (shP a0_0).length) = true := beq_iff_eq.mpr c1
      have HC1 := Aside0.mk c1
      clear c1
      by_cases c2 : a0_1.toList = []
      · rw [if_pos c2] at h
        by_cases c3 : a0_2.toList = []
        · rw [if_pos c3] at h
          by_cases c4 : a0_3 = 0
          · rw [if_pos c4] at h
            have c4b : (a0_3 != 0) = false := bne_eq_false_iff_eq.mpr c4
            have HC4 := Aside0.mk c4
            clear c4
            have H := Aside0.mk h
            clear h
            go_enter Tryd.func39, Tryd.ntmps39
            go_wp2_with fail
            obtain ⟨W, hW⟩ : ∃ W, W = (w.alloc (.cells #[.int .u8 a0_0, .string a0_1, .string a0_2, .int .i64 a0_3, .slice A0_4 l0_4.length c0_4] 25)).alloc (.cells #[.slice A (shP a0_0).length c, .int .u8 (shO a0_0)] 95) := ⟨_, rfl⟩
            have BW := Aside0.mk (show Below w.heap.size w W by rw [hW]; exact below_alloc (below_alloc (Below.refl _ _) _) _)
            have BK := Aside0.mk (show W.heap[w.heap.size + 1]? = some (.cells #[.slice A (shP a0_0).length c, .int .u8 (shO a0_0)] 95 (0, 0)) by rw [hW]; have := blk_new (w.alloc (.cells #[.int .u8 a0_0, .string a0_1, .string a0_2, .int .i64 a0_3, .slice A0_4 l0_4.length c0_4] 25)) (.cells #[.slice A (shP a0_0).length c, .int .u8 (shO a0_0)] 95); simpa using this)
            rw [← hW]
            clear hW hlk1 hgl hg3
            go_loopg [43] k (fun kq v43 w' => ∃ i : Int, v43 = .int .i64 i ∧ Aside0 (0 ≤ i) ∧ Aside0 (observable_sorted.l0 kq (shP a0_0) (shO a0_0) l0_4 i = some r) ∧ Aside0 (kq ≤ k) ∧ Aside0 (Below w.heap.size w w') ∧ Aside0 (w'.heap[w.heap.size + 1]? = some (.cells #[.slice A (shP a0_0).length c, .int .u8 (shO a0_0)] 95 (0, 0))))
            case atStart => exact ⟨0, rfl, ⟨Int.le_refl _⟩, H, ⟨Nat.le_refl _⟩, BW, BK⟩
            case round =>
              clear H BW BK c1b c1c c4b c2 c3
              obtain ⟨i, rfl, HI, HA, HK, BW, BK⟩ := hrel
              cases gk with
              | zero => exact absurd HA.out (by simp [observable_sorted.l0])
              | succ k1 =>
                have H := HA.out
                clear HA
                simp only [observable_sorted.l0] at H
                by_cases c5 : i < (l0_4.length : Int)
                · rw [if_pos c5] at H
                  obtain ⟨u, hu, H2⟩ := Option.bind_eq_some_iff.mp H
                  clear H
                  have HU := Aside0.mk hu
                  clear hu
                  have i0 : 0 ≤ i := HI.out
                  have i1 : i < ((shP a0_0).length : Int) := by have := HC1.out; omega
                  obtain ⟨ad, A4, c4, e4, x0, x1, x2, x3, x4, l4, g4⟩ := at_T25 HR.out i i0 c5
                  obtain ⟨ap, ep, xp⟩ := Kd.at_int HAR.out i i0 i1
                  cases e4
                  cases ep
                  replace x0 := (BW.out.cell (World.block_lt_of_cell? w _ x0)).trans x0
                  replace x1 := (BW.out.cell (World.block_lt_of_cell? w _ x1)).trans x1
                  replace x2 := (BW.out.cell (World.block_lt_of_cell? w _ x2)).trans x2
                  replace x3 := (BW.out.cell (World.block_lt_of_cell? w _ x3)).trans x3
                  replace x4 := (BW.out.cell (World.block_lt_of_cell? w _ x4)).trans x4
                  have i2 : i < (l0_4.length : Int) := c5
                  go_wp2_with fail
                  have B2 := Aside0.mk (below_alloc BW.out (.cells #[.int .u8 (rd_T25 l0_4 i).f0, .string (rd_T25 l0_4 i).f1, .string (rd_T25 l0_4 i).f2, .int .i64 (rd_T25 l0_4 i).f3, .slice A4 (rd_T25 l0_4 i).f4.length c4] 25))
                  have K2 := Aside0.mk (blk_alloc BK.out (.cells #[.int .u8 (rd_T25 l0_4 i).f0, .string (rd_T25 l0_4 i).f1, .string (rd_T25 l0_4 i).f2, .int .i64 (rd_T25 l0_4 i).f3, .slice A4 (rd_T25 l0_4 i).f4.length c4] 25))
                  have Y2 := blk_new wr (.cells #[.int .u8 (rd_T25 l0_4 i).f0, .string (rd_T25 l0_4 i).f1, .string (rd_T25 l0_4 i).f2, .int .i64 (rd_T25 l0_4 i).f3, .slice A4 (rd_T25 l0_4 i).f4.length c4] 25)
                  have xp2 := (B2.out.cell (World.block_lt_of_cell? w _ xp)).trans xp
                  clear x0 x1 x2 x3 x4 xp
                  generalize wr.alloc (.cells #[.int .u8 (rd_T25 l0_4 i).f0, .string (rd_T25 l0_4 i).f1, .string (rd_T25 l0_4 i).f2, .int .i64 (rd_T25 l0_4 i).f3, .slice A4 (rd_T25 l0_4 i).f4.length c4] 25) = W2 at B2 K2 Y2 xp2 ⊢
                  generalize wr.heap.size = gy at Y2 ⊢
                  have y0 : W2.cell? ⟨gy, 0, none⟩ = some (.int .u8 (rd_T25 l0_4 i).f0) := (blk_cell Y2 0).trans rfl
                  have y1 : W2.cell? ⟨gy, 1, none⟩ = some (.string (rd_T25 l0_4 i).f1) := (blk_cell Y2 1).trans rfl
                  have y2 : W2.cell? ⟨gy, 2, none⟩ = some (.string (rd_T25 l0_4 i).f2) := (blk_cell Y2 2).trans rfl
                  have y3 : W2.cell? ⟨gy, 3, none⟩ = some (.int .i64 (rd_T25 l0_4 i).f3) := (blk_cell Y2 3).trans rfl
                  have y4 : W2.cell? ⟨gy, 4, none⟩ = some (.slice A4 (rd_T25 l0_4 i).f4.length c4) := (blk_cell Y2 4).trans rfl
                  have s0 : W2.cell? ⟨w.heap.size + 1, 0, none⟩ = some (.slice (some ap) (shP a0_0).length c) := (blk_cell K2.out 0).trans rfl
                  have s1 : W2.cell? ⟨w.heap.size + 1, 1, none⟩ = some (.int .u8 (shO a0_0)) := (blk_cell K2.out 1).trans rfl
                  clear Y2
                  go_region_held3 (fun w' => w'.cell? ⟨gy, 0, none⟩ = some (.int .u8 (rd_T25 l0_4 i).f0) ∧ w'.cell? ⟨gy, 1, none⟩ = some (.string (rd_T25 l0_4 i).f1) ∧ w'.cell? ⟨gy, 2, none⟩ = some (.string (rd_T25 l0_4 i).f2) ∧ w'.cell? ⟨gy, 3, none⟩ = some (.int .i64 (rd_T25 l0_4 i).f3) ∧ w'.cell? ⟨gy, 4, none⟩ = some (.slice A4 (rd_T25 l0_4 i).f4.length c4) ∧ w'.cell? ⟨w.heap.size + 1, 0, none⟩ = some (.slice (some ap) (shP a0_0).length c) ∧ w'.cell? (ap.add i.toNat) = some (.int .u8 (rd (shP a0_0) i)) ∧ Aside0 (Below w.heap.size w w') ∧ Aside0 (w'.heap[w.heap.size + 1]? = some (.cells #[.slice (some ap) (shP a0_0).length c, .int .u8 (shO a0_0)] 95 (0, 0))))
                    (first
                      | (go_split_ands
                         refine ⟨?_, ?_, ?_, ?_, ?_, ?_, ?_, ?_, ?_⟩
                         all_goals first
                           | (go_keep; done)
                           | exact pw_cell_below hb (by assumption)
                           | exact ⟨below_step (Aside0.out (by assumption)) hb⟩
                           | exact ⟨blk_below (Aside0.out (by assumption)) hb⟩
                           | exact ⟨below_drew1 (Aside0.out (by assumption))⟩
                           | exact ⟨blk_drew (Aside0.out (by assumption))⟩)
                      | (refine ⟨?_, ?_, ?_, ?_, ?_, ?_, ?_, ?_, ?_⟩
                         all_goals first
                           | (go_keep; done)
                           | exact ⟨below_drew1 B2.out⟩
                           | exact ⟨blk_drew K2.out⟩))
                    (first | (go_at_call 39; refine (IH.out k1 (by have := HK.out; omega) _ _ _ _ _ _ _ u _ (HG.out.below (by first | exact below_drew1 B2.out | exact Aside0.out (by assumption))) (Kd.C_below g4 (by first | exact below_drew1 B2.out | exact Aside0.out (by assumption))) l4 HU.out).mono ?_; rintro e w' ⟨rfl, hb⟩))
                  have B3 := Aside0.mk (below_step (below_drew1 B2.out) hb)
                  have K3 := Aside0.mk (blk_below (blk_drew K2.out) hb)
                  clear hb y0 y1 y2 y3 y4 s0 s1 xp2 B2 K2
                  by_cases c6 : u = rd (shP a0_0) i
                  · rw [if_pos c6] at H2
                    have H3 := Aside0.mk H2
                    clear H2
                    have c6b : (u != rd (shP a0_0) i) = false := bne_eq_false_iff_eq.mpr c6
                    clear c6
                    have i3 : i ≤ 3 := by have := shP_le a0_0; omega
                    go_wp2_with fail
                    go_roundg k1
                    case measure => have := HK.out; omega
                    case rel => exact ⟨i + 1, rfl, ⟨by omega⟩, H3, ⟨by have := HK.out; omega⟩, B3, K3⟩
                  · rw [if_neg c6] at H2
                    obtain rfl := Option.some.inj H2
                    have c6b : (u != rd (shP a0_0) i) = true := bne_iff_ne.mpr c6
                    clear H2
                    go_wp2_with fail
                    go_ret
                    exact ⟨rfl, B3.out⟩
                · rw [if_neg c5] at H
                  obtain rfl := Option.some.inj H
                  clear H
                  have o0 : wr.cell? ⟨w.heap.size + 1, 1, none⟩ = some (.int .u8 (shO a0_0)) := (blk_cell BK.out 1).trans rfl
                  go_wp2_with fail
                  go_ret
                  exact ⟨rfl, BW.out⟩
          · rw [if_neg c4] at h
            obtain rfl := Option.some.inj h
            have c4b : (a0_3 != 0) = true := bne_iff_ne.mpr c4
            clear h
            go_enter Tryd.func39, Tryd.ntmps39
            go_wp2_with fail
            go_ret
            exact ⟨rfl, below_alloc (below_alloc (Below.refl _ _) _) _⟩
        · rw [if_neg c3] at h
          obtain rfl := Option.some.inj h
          clear h
          go_enter Tryd.func39, Tryd.ntmps39
          go_wp2_with fail
          go_ret
          exact ⟨rfl, below_alloc (below_alloc (Below.refl _ _) _) _⟩
      · rw [if_neg c2] at h
        obtain rfl := Option.some.inj h
        clear h
        go_enter Tryd.func39, Tryd.ntmps39
        go_wp2_with fail
        go_ret
        exact ⟨rfl, below_alloc (below_alloc (Below.refl _ _) _) _⟩
    · rw [if_neg c1] at h
      obtain rfl := Option.some.inj h
      have c1b : ((l0_4.length : Int) != ((shP a0_0).length : Int)) = true := bne_iff_ne.mpr (by omega)
      have c1c : (l0_4.length == (shP a0_0).length) = false := beq_eq_false_iff_ne.mpr c1
      clear c1 h
      go_enter Tryd.func39, Tryd.ntmps39
      go_wp2_with fail
      go_ret
      exact ⟨rfl, below_alloc (below_alloc (Below.refl _ _) _) _⟩
  · rw [if_neg cB] at h
    replace cB : shB a0_0 = false := by simpa using cB
    rw [cB] at hlk1
    have H := Aside0.mk h
    have HB := Aside0.mk cB
    clear h cB
    go_enter Tryd.func39, Tryd.ntmps39
    go_wp2_with (go_at_call 56; refine (observable_leaf.calls k _ _ _ _ _ _ _ r _ ?_ hc0_4 H.out).mono ?_; exact Kd.C_below HR.out (below_alloc (below_alloc (Below.refl _ _) _) _); rintro e w' ⟨rfl, hb⟩)
    go_ret
    exact ⟨rfl, below_step (below_alloc (below_alloc (Below.refl _ _) _) _) hb⟩

-- IMPORT Derived.Outline
def observable_Check.f (k : Nat) (a0 : Int) (a1 a2 : ByteArray) (a3 : Int) (l4 : List S25) : Option Int :=
  (observable_Size.f k a0 a1 a2 a3 l4).bind fun n => if n > 500 then some 4 else (observable_depth.f k a0 a1 a2 a3 l4 60).bind fun d => if d > 60 then some 4 else
    (observable_sorted.f k a0 a1 a2 a3 l4).bind fun s => if s = 0 then some 8 else some 0
set_option maxHeartbeats 8000000 in
set_option maxRecDepth 100000 in
theorem observable_Check.calls (k : Nat) (a0 : Int) (a1 a2 : ByteArray) (a3 : Int) (A4 : Option Addr) (c4 : Nat) (l4 : List S25) (r : Int) (w : World) (hG : ShG w) (hr : Kd.C k25 w A4 l4.length l4) (hc : l4.length ≤ c4) (h : observable_Check.f k a0 a1 a2 a3 l4 = some r) :
    Calls Tryd.prog 22 #[.agg #[.int .u8 a0, .string a1, .string a2, .int .i64 a3, .slice A4 l4.length c4]] w fun e w' => e = .returned (.int .i64 r) ∧ Below w.heap.size w w' := by
  obtain ⟨n, hn, h1⟩ := Option.bind_eq_some_iff.mp h
  clear h
  have HN := Aside0.mk hn
  have HG := Aside0.mk hG
  have HR := Aside0.mk hr
  have B1 := Aside0.mk (below_alloc (Below.refl w.heap.size w) (.cells #[.int .u8 a0, .string a1, .string a2, .int .i64 a3, .slice A4 l4.length c4] 25))
  have K1 := Aside0.mk (blk_new w (.cells #[.int .u8 a0, .string a1, .string a2, .int .i64 a3, .slice A4 l4.length c4] 25))
  clear hn hG hr
  by_cases c1 : n > 500
  · rw [if_pos c1] at h1
    obtain rfl := Option.some.inj h1
    have c1b : decide (500 < n) = true := decide_eq_true c1
    clear h1
    go_enter Tryd.func22, Tryd.ntmps22
    go_wp2_with (first
        | (go_at_call 37; refine (observable_Size.calls k _ _ _ _ _ _ _ n _ (Kd.C_below HR.out B1.out) hc HN.out).mono ?_; rintro e w' ⟨rfl, hb⟩; have B2 := Aside0.mk (below_step B1.out hb); have K2 := Aside0.mk (blk_below K1.out hb); clear hb; try (obtain ⟨x0_1, x1_1, x2_1, x3_1, x4_1⟩ := h_box5 K2.out)))
    go_ret
    exact ⟨rfl, B2.out⟩
  · rw [if_neg c1] at h1
    obtain ⟨d, hd, h2⟩ := Option.bind_eq_some_iff.mp h1
    have c1b : decide (500 < n) = false := decide_eq_false c1
    have HD := Aside0.mk hd
    clear h1 c1 hd
    by_cases c2 : d > 60
    · rw [if_pos c2] at h2
      obtain rfl := Option.some.inj h2
      have c2b : decide (60 < d) = true := decide_eq_true c2
      clear h2
      go_enter Tryd.func22, Tryd.ntmps22
      go_wp2_with (first
        | (go_at_call 37; refine (observable_Size.calls k _ _ _ _ _ _ _ n _ (Kd.C_below HR.out B1.out) hc HN.out).mono ?_; rintro e w' ⟨rfl, hb⟩; have B2 := Aside0.mk (below_step B1.out hb); have K2 := Aside0.mk (blk_below K1.out hb); clear hb; try (obtain ⟨x0_1, x1_1, x2_1, x3_1, x4_1⟩ := h_box5 K2.out))
        | (go_at_call 38; refine (observable_depth.calls k _ _ _ _ _ _ _ _ d _ (Kd.C_below HR.out B2.out) hc HD.out).mono ?_; rintro e w' ⟨rfl, hb⟩; have B3 := Aside0.mk (below_step B2.out hb); have K3 := Aside0.mk (blk_below K2.out hb); clear hb; try (obtain ⟨x0_2, x1_2, x2_2, x3_2, x4_2⟩ := h_box5 K3.out)))
      go_ret
      exact ⟨rfl, B3.out⟩
    · rw [if_neg c2] at h2
      obtain ⟨s, hs, h3⟩ := Option.bind_eq_some_iff.mp h2
      have c2b : decide (60 < d) = false := decide_eq_false c2
      have HS := Aside0.mk hs
      clear h2 c2 hs
      by_cases c3 : s = 0
      · rw [if_pos c3] at h3
        obtain rfl := Option.some.inj h3
        have c3b : (s == 0) = true := beq_iff_eq.mpr c3
        clear h3 c3
        go_enter Tryd.func22, Tryd.ntmps22
        go_wp2_with (first
        | (go_at_call 37; refine (observable_Size.calls k _ _ _ _ _ _ _ n _ (Kd.C_below HR.out B1.out) hc HN.out).mono ?_; rintro e w' ⟨rfl, hb⟩; have B2 := Aside0.mk (below_step B1.out hb); have K2 := Aside0.mk (blk_below K1.out hb); clear hb; try (obtain ⟨x0_1, x1_1, x2_1, x3_1, x4_1⟩ := h_box5 K2.out))
        | (go_at_call 38; refine (observable_depth.calls k _ _ _ _ _ _ _ _ d _ (Kd.C_below HR.out B2.out) hc HD.out).mono ?_; rintro e w' ⟨rfl, hb⟩; have B3 := Aside0.mk (below_step B2.out hb); have K3 := Aside0.mk (blk_below K2.out hb); clear hb; try (obtain ⟨x0_2, x1_2, x2_2, x3_2, x4_2⟩ := h_box5 K3.out))
        | (go_at_call 39; refine (observable_sorted.calls k _ _ _ _ _ _ _ s _ (HG.out.below B3.out) (Kd.C_below HR.out B3.out) hc HS.out).mono ?_; rintro e w' ⟨rfl, hb⟩; have B4 := Aside0.mk (below_step B3.out hb); have K4 := Aside0.mk (blk_below K3.out hb); clear hb; try (obtain ⟨x0_3, x1_3, x2_3, x3_3, x4_3⟩ := h_box5 K4.out)))
        go_ret
        exact ⟨rfl, B4.out⟩
      · rw [if_neg c3] at h3
        obtain rfl := Option.some.inj h3
        have c3b : (s == 0) = false := beq_eq_false_iff_ne.mpr c3
        clear h3
        go_enter Tryd.func22, Tryd.ntmps22
        go_wp2_with (first
        | (go_at_call 37; refine (observable_Size.calls k _ _ _ _ _ _ _ n _ (Kd.C_below HR.out B1.out) hc HN.out).mono ?_; rintro e w' ⟨rfl, hb⟩; have B2 := Aside0.mk (below_step B1.out hb); have K2 := Aside0.mk (blk_below K1.out hb); clear hb; try (obtain ⟨x0_1, x1_1, x2_1, x3_1, x4_1⟩ := h_box5 K2.out))
        | (go_at_call 38; refine (observable_depth.calls k _ _ _ _ _ _ _ _ d _ (Kd.C_below HR.out B2.out) hc HD.out).mono ?_; rintro e w' ⟨rfl, hb⟩; have B3 := Aside0.mk (below_step B2.out hb); have K3 := Aside0.mk (blk_below K2.out hb); clear hb; try (obtain ⟨x0_2, x1_2, x2_2, x3_2, x4_2⟩ := h_box5 K3.out))
        | (go_at_call 39; refine (observable_sorted.calls k _ _ _ _ _ _ _ s _ (HG.out.below B3.out) (Kd.C_below HR.out B3.out) hc HS.out).mono ?_; rintro e w' ⟨rfl, hb⟩; have B4 := Aside0.mk (below_step B3.out hb); have K4 := Aside0.mk (blk_below K3.out hb); clear hb; try (obtain ⟨x0_3, x1_3, x2_3, x3_3, x4_3⟩ := h_box5 K4.out)))
        go_ret
        exact ⟨rfl, B4.out⟩
def observable_Number.f (k : Nat) (a0 : Int) (a1 a2 : ByteArray) (a3 : Int) (l4 : List S25) : Option Bool :=
  (observable_Check.f k a0 a1 a2 a3 l4).bind fun e => if e = 0 then (observable_sorted.f k a0 a1 a2 a3 l4).bind fun s => some (s == 1) else some false
set_option maxHeartbeats 8000000 in
set_option maxRecDepth 100000 in
theorem observable_Number.calls (k : Nat) (a0 : Int) (a1 a2 : ByteArray) (a3 : Int) (A4 : Option Addr) (c4 : Nat) (l4 : List S25) (r : Bool) (w : World) (hG : ShG w) (hr : Kd.C k25 w A4 l4.length l4) (hc : l4.length ≤ c4) (h : observable_Number.f k a0 a1 a2 a3 l4 = some r) :
    Calls Tryd.prog 49 #[.agg #[.int .u8 a0, .string a1, .string a2, .int .i64 a3, .slice A4 l4.length c4]] w fun e w' => e = .returned (.bool r) ∧ Below w.heap.size w w' := by
  obtain ⟨e1, he, h1⟩ := Option.bind_eq_some_iff.mp h
  clear h
  have HE := Aside0.mk he
  have HG := Aside0.mk hG
  have HR := Aside0.mk hr
  have B1 := Aside0.mk (below_alloc (Below.refl w.heap.size w) (.cells #[.int .u8 a0, .string a1, .string a2, .int .i64 a3, .slice A4 l4.length c4] 25))
  have K1 := Aside0.mk (blk_new w (.cells #[.int .u8 a0, .string a1, .string a2, .int .i64 a3, .slice A4 l4.length c4] 25))
  clear he hG hr
  by_cases c1 : e1 = 0
  · rw [if_pos c1] at h1
    obtain ⟨s, hs, h2⟩ := Option.bind_eq_some_iff.mp h1
    obtain rfl := Option.some.inj h2
    have HS := Aside0.mk hs
    have c1b : (e1 == 0) = true := beq_iff_eq.mpr c1
    clear h1 h2 c1 hs
    go_enter Tryd.func49, Tryd.ntmps49
    go_wp2_with (first
        | (go_at_call 22; refine (observable_Check.calls k _ _ _ _ _ _ _ e1 _ (HG.out.below B1.out) (Kd.C_below HR.out B1.out) hc HE.out).mono ?_; rintro e w' ⟨rfl, hb⟩; have B2 := Aside0.mk (below_step B1.out hb); have K2 := Aside0.mk (blk_below K1.out hb); clear hb; try (obtain ⟨x0_1, x1_1, x2_1, x3_1, x4_1⟩ := h_box5 K2.out))
        | (go_at_call 39; refine (observable_sorted.calls k _ _ _ _ _ _ _ s _ (HG.out.below B2.out) (Kd.C_below HR.out B2.out) hc HS.out).mono ?_; rintro e w' ⟨rfl, hb⟩; have B3 := Aside0.mk (below_step B2.out hb); have K3 := Aside0.mk (blk_below K2.out hb); clear hb; try (obtain ⟨x0_2, x1_2, x2_2, x3_2, x4_2⟩ := h_box5 K3.out)))
    go_ret
    exact ⟨rfl, B3.out⟩
  · rw [if_neg c1] at h1
    obtain rfl := Option.some.inj h1
    have c1b : (e1 == 0) = false := beq_eq_false_iff_ne.mpr c1
    clear h1
    go_enter Tryd.func49, Tryd.ntmps49
    go_wp2_with (first
        | (go_at_call 22; refine (observable_Check.calls k _ _ _ _ _ _ _ e1 _ (HG.out.below B1.out) (Kd.C_below HR.out B1.out) hc HE.out).mono ?_; rintro e w' ⟨rfl, hb⟩; have B2 := Aside0.mk (below_step B1.out hb); have K2 := Aside0.mk (blk_below K1.out hb); clear hb; try (obtain ⟨x0_1, x1_1, x2_1, x3_1, x4_1⟩ := h_box5 K2.out)))
    go_ret
    exact ⟨rfl, B2.out⟩
def observable_Truth.f (k : Nat) (a0 : Int) (a1 a2 : ByteArray) (a3 : Int) (l4 : List S25) : Option Bool :=
  (observable_Check.f k a0 a1 a2 a3 l4).bind fun e => if e = 0 then (observable_sorted.f k a0 a1 a2 a3 l4).bind fun s => some (s == 2) else some false
set_option maxHeartbeats 8000000 in
set_option maxRecDepth 100000 in
theorem observable_Truth.calls (k : Nat) (a0 : Int) (a1 a2 : ByteArray) (a3 : Int) (A4 : Option Addr) (c4 : Nat) (l4 : List S25) (r : Bool) (w : World) (hG : ShG w) (hr : Kd.C k25 w A4 l4.length l4) (hc : l4.length ≤ c4) (h : observable_Truth.f k a0 a1 a2 a3 l4 = some r) :
    Calls Tryd.prog 50 #[.agg #[.int .u8 a0, .string a1, .string a2, .int .i64 a3, .slice A4 l4.length c4]] w fun e w' => e = .returned (.bool r) ∧ Below w.heap.size w w' := by
  obtain ⟨e1, he, h1⟩ := Option.bind_eq_some_iff.mp h
  clear h
  have HE := Aside0.mk he
  have HG := Aside0.mk hG
  have HR := Aside0.mk hr
  have B1 := Aside0.mk (below_alloc (Below.refl w.heap.size w) (.cells #[.int .u8 a0, .string a1, .string a2, .int .i64 a3, .slice A4 l4.length c4] 25))
  have K1 := Aside0.mk (blk_new w (.cells #[.int .u8 a0, .string a1, .string a2, .int .i64 a3, .slice A4 l4.length c4] 25))
  clear he hG hr
  by_cases c1 : e1 = 0
  · rw [if_pos c1] at h1
    obtain ⟨s, hs, h2⟩ := Option.bind_eq_some_iff.mp h1
    obtain rfl := Option.some.inj h2
    have HS := Aside0.mk hs
    have c1b : (e1 == 0) = true := beq_iff_eq.mpr c1
    clear h1 h2 c1 hs
    go_enter Tryd.func50, Tryd.ntmps50
    go_wp2_with (first
        | (go_at_call 22; refine (observable_Check.calls k _ _ _ _ _ _ _ e1 _ (HG.out.below B1.out) (Kd.C_below HR.out B1.out) hc HE.out).mono ?_; rintro e w' ⟨rfl, hb⟩; have B2 := Aside0.mk (below_step B1.out hb); have K2 := Aside0.mk (blk_below K1.out hb); clear hb; try (obtain ⟨x0_1, x1_1, x2_1, x3_1, x4_1⟩ := h_box5 K2.out))
        | (go_at_call 39; refine (observable_sorted.calls k _ _ _ _ _ _ _ s _ (HG.out.below B2.out) (Kd.C_below HR.out B2.out) hc HS.out).mono ?_; rintro e w' ⟨rfl, hb⟩; have B3 := Aside0.mk (below_step B2.out hb); have K3 := Aside0.mk (blk_below K2.out hb); clear hb; try (obtain ⟨x0_2, x1_2, x2_2, x3_2, x4_2⟩ := h_box5 K3.out)))
    go_ret
    exact ⟨rfl, B3.out⟩
  · rw [if_neg c1] at h1
    obtain rfl := Option.some.inj h1
    have c1b : (e1 == 0) = false := beq_eq_false_iff_ne.mpr c1
    clear h1
    go_enter Tryd.func50, Tryd.ntmps50
    go_wp2_with (first
        | (go_at_call 22; refine (observable_Check.calls k _ _ _ _ _ _ _ e1 _ (HG.out.below B1.out) (Kd.C_below HR.out B1.out) hc HE.out).mono ?_; rintro e w' ⟨rfl, hb⟩; have B2 := Aside0.mk (below_step B1.out hb); have K2 := Aside0.mk (blk_below K1.out hb); clear hb; try (obtain ⟨x0_1, x1_1, x2_1, x3_1, x4_1⟩ := h_box5 K2.out)))
    go_ret
    exact ⟨rfl, B2.out⟩

end Go.Proofs.YtalaekadkjhldaaDoor.Pr
