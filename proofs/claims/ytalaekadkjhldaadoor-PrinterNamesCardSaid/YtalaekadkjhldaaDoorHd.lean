/- A part of the proof of the statement PrinterNames (the printer's examples, further texts and errors): contracts of functions of the program, proved by walking their text. -/
import Derived.Test.YtalaekadkjhldaaDoorPn0
import Derived.Test.YtalaekadkjhldaaDoorPn1
import Derived.Test.YtalaekadkjhldaaDoorPn2
import Derived.Test.YtalaekadkjhldaaDoorPn3
import Derived.Test.YtalaekadkjhldaaDoorPn4
import Derived.Test.YtalaekadkjhldaaDoorPn5
import Derived.Test.YtalaekadkjhldaaDoorPn6
import Derived.Outline
import Derived.Maps.Own
import Derived.Maps.StringElems
import Derived.Lib.UnsafeStr
import Derived.Deep.RegionWith
import Derived.Test.YtalaekadkjhldaaDoorShelf
import Derived.Test.YtalaekadkjhldaaDoorHa
import Derived.Test.YtalaekadkjhldaaDoorHb
import Derived.Test.YtalaekadkjhldaaDoorHc
namespace Go.Proofs.YtalaekadkjhldaaDoor.Pr
open Go.RowKit Go.Proofs.YtalaekadkjhldaaDoorW.PrintWords Go.Proofs.YtalaekadkjhldaaDoorW.PrintLast Go.Proofs.YtalaekadkjhldaaDoorW.PrintMore
attribute [local go_sem] max2_int min2_int max_two min_two max_three min_three max_four min_four
set_option linter.unusedVariables false
set_option linter.unusedSimpArgs false
-- IMPORT Derived.Outline Derived.Maps.Own Derived.Maps.StringElems
open Go.Maps in
/-- A map of strings by bytes, as the call made it. -/
def StrMap (w : World) (b n : Nat) (D : DataW Unit) : Prop := w.ownsMap Tryd.prog 5 (plainElem Tryd.prog 9) b n D
theorem h_zeroStr (w : World) : (zeroValue 9).run Tryd.prog w = .ok (.string ⟨#[]⟩) w := by kernel_rfl
open Go.Maps in
theorem StrMap.made (w : World) : StrMap (w.alloc (.map #[] 0)) w.heap.size 0 (.map []) := World.ownsMap_made _ _ _ _
open Go.Maps in
theorem StrMap.put {w : World} {b n : Nat} {D : DataW Unit} (h : StrMap w b n D) (hn : n < 100) (k : Int) (hk : (Lit.int .u8 k).wf = true) (s : ByteArray) (hs : s.size ≤ 100) :
    ∃ w', (Instr.mapUpdate 48 (.map (some b)) (.int .u8 k) (.string s)).run Tryd.prog w = .ok () w' ∧ StrMap w' b (n + 1) (D.put (.int .u8 k) (.lit (.string s.data.toList))) ∧ w.grownBy w' (some b) := by
  have hv : plainElem (H := Unit) Tryd.prog 9 (.string s) = some (.lit (.string s.data.toList), []) := plainElem_string Tryd.underlying9 (by unfold maxLen; omega)
  obtain ⟨w', h1, h2, h3⟩ := World.ownsMap.update h (int_keyed Tryd.underlying5) Tryd.underlying48 (by unfold maxLen; omega) (keyOf_int_mk Tryd.underlying5 hk) hv
  exact ⟨w', h1, h2, h3⟩
open Go.Maps in
/-- What a look-up answers. -/
theorem StrMap.look {w : World} {b n : Nat} {D : DataW Unit} (h : StrMap w b n D) (k : Int) (hk : (Lit.int .u8 k).wf = true) (s : ByteArray) (hD : D.atKey (.int .u8 k) (.lit (.string [])) = .lit (.string s.data.toList)) :
    (Instr.lookup 48 (.map (some b)) (.int .u8 k) false).run Tryd.prog w = .ok (.string s) w := by
  have hz : plainElem (H := Unit) Tryd.prog 9 (.string ⟨#[]⟩) = some (.lit (.string []), []) := plainElem_string Tryd.underlying9 (by decide)
  obtain ⟨v, ps, hr, hv⟩ := World.ownsMap.lookup h (int_keyed Tryd.underlying5) Tryd.underlying48 (h_zeroStr w) hz (keyOf_int_mk Tryd.underlying5 hk)
  obtain ⟨u, rfl, hu, _⟩ := plainElem_string_inv Tryd.underlying9 hv
  rw [hD] at hu
  have e : s.data.toList = u.data.toList := by simpa using congrArg Prod.fst hu
  have e2 : s = u := by
    cases s; cases u
    simpa using e
  rw [e2]
  exact hr
def wordsD : DataW Unit := .map [(.int .u8 7, .lit (.string [109, 97, 120])), (.int .u8 8, .lit (.string [109, 105, 110])), (.int .u8 9, .lit (.string [99, 97, 115, 101])), (.int .u8 11, .lit (.string [108, 101, 115, 115])), (.int .u8 12, .lit (.string [101, 113, 117, 97, 108])), (.int .u8 13, .lit (.string [97, 110, 100])), (.int .u8 14, .lit (.string [111, 114])), (.int .u8 15, .lit (.string [110, 111, 116]))]
theorem h_wordsD_eq : (DataW.put (DataW.put (DataW.put (DataW.put (DataW.put (DataW.put (DataW.put (DataW.put (.map []) (.int .u8 7) (.lit (.string (⟨#[109, 97, 120]⟩ : ByteArray).data.toList))) (.int .u8 8) (.lit (.string (⟨#[109, 105, 110]⟩ : ByteArray).data.toList))) (.int .u8 9) (.lit (.string (⟨#[99, 97, 115, 101]⟩ : ByteArray).data.toList))) (.int .u8 11) (.lit (.string (⟨#[108, 101, 115, 115]⟩ : ByteArray).data.toList))) (.int .u8 12) (.lit (.string (⟨#[101, 113, 117, 97, 108]⟩ : ByteArray).data.toList))) (.int .u8 13) (.lit (.string (⟨#[97, 110, 100]⟩ : ByteArray).data.toList))) (.int .u8 14) (.lit (.string (⟨#[111, 114]⟩ : ByteArray).data.toList))) (.int .u8 15) (.lit (.string (⟨#[110, 111, 116]⟩ : ByteArray).data.toList))) = wordsD := by kernel_rfl
theorem h_u8wf (k : Int) (h0 : 0 ≤ k) (h1 : k < 256) : (Lit.int .u8 k).wf = true := by
  exact WalkArith.wf_u8 ⟨h0, by omega⟩
theorem h_wordsD (k : Int) (h0 : 0 ≤ k) (h1 : k < 256) : wordsD.atKey (.int .u8 k) (.lit (.string [])) = .lit (.string (wordOf k).data.toList) := by
  unfold wordOf
  by_cases hk : 7 ≤ k ∧ k ≤ 15
  · have : k = 7 ∨ k = 8 ∨ k = 9 ∨ k = 10 ∨ k = 11 ∨ k = 12 ∨ k = 13 ∨ k = 14 ∨ k = 15 := by omega
    rcases this with h | h | h | h | h | h | h | h | h <;> subst h <;> rfl
  · have hn : ∀ j : Int, 7 ≤ j ∧ j ≤ 15 → ¬ k = j := fun j hj e => hk (e ▸ hj)
    rw [if_neg (hn 7 (by omega)), if_neg (hn 8 (by omega)), if_neg (hn 9 (by omega)), if_neg (hn 11 (by omega)), if_neg (hn 12 (by omega)), if_neg (hn 13 (by omega)), if_neg (hn 14 (by omega)), if_neg (hn 15 (by omega))]
    have hm : ∀ j : Int, 7 ≤ j ∧ j ≤ 15 → (Lit.int .u8 j).sameKey (Lit.int .u8 k) = false := fun j hj => by
      have : ¬ j = k := fun e => hn j hj e.symm
      simp [Lit.sameKey, this]
    simp [wordsD, DataW.atKey, List.find?, hm 7 (by omega), hm 8 (by omega), hm 9 (by omega), hm 11 (by omega), hm 12 (by omega), hm 13 (by omega), hm 14 (by omega), hm 15 (by omega)]
theorem h_wordsOK {w : World} {b n : Nat} (h : StrMap w b n wordsD) : ∃ om, w.heap[b]? = some om ∧ WordsOK b om := by
  obtain ⟨es, clock, hb, F, hs, hD⟩ := h
  refine ⟨_, hb, ⟨_, _, rfl⟩, fun W k hW h0 h1 => ?_⟩
  exact StrMap.look (n := n) (D := wordsD) ⟨es, clock, hW, F, hs, hD⟩ k (h_u8wf k h0 h1) (wordOf k) (h_wordsD k h0 h1)
set_option maxHeartbeats 4000000 in
set_option maxRecDepth 100000 in
theorem h_words (w : World) :
    Calls Tryd.prog 19 #[] w fun e w' => e = .returned (.map (some w.heap.size)) ∧ Aside0 (∃ om, w'.heap[w.heap.size]? = some om ∧ WordsOK w.heap.size om) ∧ Below w.heap.size w w' ∧ Aside0 (w.heap.size < w'.heap.size) := by
  have hmm := @run_makeMap Tryd.prog
  have m0 := Aside0.mk (StrMap.made w)
  have b0 := Aside0.mk (below_alloc (Below.refl w.heap.size w) (.map #[] 0))
  go_enter Tryd.func19, Tryd.ntmps19
  go_wp2
  obtain ⟨w1, e1, mm1, gg1⟩ := StrMap.put m0.out (by omega) 7 (by decide) ⟨#[109, 97, 120]⟩ (by decide)
  rw [e1]
  have m1 := Aside0.mk mm1
  have b1 := Aside0.mk (b0.out.grown gg1 b0.out.size (fun k hk => by cases hk; exact Nat.le_refl _))
  clear e1 mm1 gg1
  simp only [Result.andThen]
  rw [Oper.upon_skip]
  go_wp2
  obtain ⟨w2, e2, mm2, gg2⟩ := StrMap.put m1.out (by omega) 8 (by decide) ⟨#[109, 105, 110]⟩ (by decide)
  rw [e2]
  have m2 := Aside0.mk mm2
  have b2 := Aside0.mk (b1.out.grown gg2 b1.out.size (fun k hk => by cases hk; exact Nat.le_refl _))
  clear e2 mm2 gg2
  simp only [Result.andThen]
  rw [Oper.upon_skip]
  go_wp2
  obtain ⟨w3, e3, mm3, gg3⟩ := StrMap.put m2.out (by omega) 9 (by decide) ⟨#[99, 97, 115, 101]⟩ (by decide)
  rw [e3]
  have m3 := Aside0.mk mm3
  have b3 := Aside0.mk (b2.out.grown gg3 b2.out.size (fun k hk => by cases hk; exact Nat.le_refl _))
  clear e3 mm3 gg3
  simp only [Result.andThen]
  rw [Oper.upon_skip]
  go_wp2
  obtain ⟨w4, e4, mm4, gg4⟩ := StrMap.put m3.out (by omega) 11 (by decide) ⟨#[108, 101, 115, 115]⟩ (by decide)
  rw [e4]
  have m4 := Aside0.mk mm4
  have b4 := Aside0.mk (b3.out.grown gg4 b3.out.size (fun k hk => by cases hk; exact Nat.le_refl _))
  clear e4 mm4 gg4
  simp only [Result.andThen]
  rw [Oper.upon_skip]
  go_wp2
  obtain ⟨w5, e5, mm5, gg5⟩ := StrMap.put m4.out (by omega) 12 (by decide) ⟨#[101, 113, 117, 97, 108]⟩ (by decide)
  rw [e5]
  have m5 := Aside0.mk mm5
  have b5 := Aside0.mk (b4.out.grown gg5 b4.out.size (fun k hk => by cases hk; exact Nat.le_refl _))
  clear e5 mm5 gg5
  simp only [Result.andThen]
  rw [Oper.upon_skip]
  go_wp2
  obtain ⟨w6, e6, mm6, gg6⟩ := StrMap.put m5.out (by omega) 13 (by decide) ⟨#[97, 110, 100]⟩ (by decide)
  rw [e6]
  have m6 := Aside0.mk mm6
  have b6 := Aside0.mk (b5.out.grown gg6 b5.out.size (fun k hk => by cases hk; exact Nat.le_refl _))
  clear e6 mm6 gg6
  simp only [Result.andThen]
  rw [Oper.upon_skip]
  go_wp2
  obtain ⟨w7, e7, mm7, gg7⟩ := StrMap.put m6.out (by omega) 14 (by decide) ⟨#[111, 114]⟩ (by decide)
  rw [e7]
  have m7 := Aside0.mk mm7
  have b7 := Aside0.mk (b6.out.grown gg7 b6.out.size (fun k hk => by cases hk; exact Nat.le_refl _))
  clear e7 mm7 gg7
  simp only [Result.andThen]
  rw [Oper.upon_skip]
  go_wp2
  obtain ⟨w8, e8, mm8, gg8⟩ := StrMap.put m7.out (by omega) 15 (by decide) ⟨#[110, 111, 116]⟩ (by decide)
  rw [e8]
  have m8 := Aside0.mk mm8
  have b8 := Aside0.mk (b7.out.grown gg8 b7.out.size (fun k hk => by cases hk; exact Nat.le_refl _))
  clear e8 mm8 gg8
  simp only [Result.andThen]
  rw [Oper.upon_skip]
  go_wp2
  go_ret
  have m9 : StrMap w8 w.heap.size 8 wordsD := by
    rw [← h_wordsD_eq]; exact m8.out
  obtain ⟨om, h1, h2⟩ := h_wordsOK m9
  exact ⟨rfl, ⟨om, h1, h2⟩, b8.out, ⟨blk_lt h1⟩⟩

-- IMPORT Derived.Outline Derived.Lib.UnsafeStr Derived.Deep.RegionWith
open Go.Lib (byteCells strCells)
theorem h_cellsByte : Tryd.prog.cellsOf 5 = 1 := by kernel_rfl
set_option maxHeartbeats 2000000 in
set_option maxRecDepth 100000 in
theorem h_Len (B g mb : Nat) (v : Value) (l : List UInt8) (w : World) (h : OutAt B w g v mb l) :
    Calls Tryd.prog 35 #[.pointer (some ⟨g, 0, none⟩)] w fun e w' => e = .returned (.int .i64 l.length) ∧ w' = w := by
  obtain ⟨a, _, hg⟩ := h.blk
  obtain ⟨ao, cp, rfl⟩ := own_slice h.own
  have c1 : w.cell? ⟨g, 1, none⟩ = some (.slice ao l.length cp) := (blk_cell hg 1).trans rfl
  clear h hg
  go_enter Tryd.func35, Tryd.ntmps35
  go_wp2
  go_ret
  exact ⟨rfl, rfl⟩
set_option maxHeartbeats 2000000 in
set_option maxRecDepth 100000 in
theorem h_String (B g mb : Nat) (v : Value) (l : List UInt8) (w : World) (h : OutAt B w g v mb l) (h0 : l ≠ []) :
    Calls Tryd.prog 36 #[.pointer (some ⟨g, 0, none⟩)] w fun e w' => e = .returned (.string ⟨l.toArray⟩) ∧ Below B w w' := by
  obtain ⟨a, _, hbk⟩ := h.blk
  have hown := h.own
  have hl0 : l.length ≠ 0 := by simpa using h0
  obtain ⟨r, cap, cur, rfl, hbg, hg, hnc, hcm, hcs, htake⟩ : ∃ r cap cur, v = .slice (some ⟨r, 0, none⟩) l.length cap ∧ B ≤ r ∧ w.heap[r]? = some (.cells cur 5 (0, 0)) ∧ l.length ≤ cap ∧ cap ≤ maxLen ∧ cur.size = cap * 1 ∧ cur.toList.take (l.length * 1) = byteCells l := by
    rcases hown.2 with ⟨_, hz⟩ | ⟨r, cap, cur, hv, rr⟩
    · exact absurd hz hl0
    · exact ⟨r, cap, cur, hv, rr⟩
  have c1 : w.drew.cell? ⟨g, 1, none⟩ = some (.slice (some ⟨r, 0, none⟩) l.length cap) := (blk_cell (w := w.drew) (g := g) hbk 1).trans rfl
  have hSD : (Builtin.unsafeSliceData_ #[43] 92 #[.slice (some ⟨r, 0, none⟩) l.length cap]).run Tryd.prog w.drew = .ok (.pointer (some ⟨r, 0, none⟩)) w.drew :=
    Go.Lib.run_unsafeSliceData_row _ _ _ _ _ _ (by omega)
  have hUS : (Builtin.unsafeString_ #[92, 3] 9 #[.pointer (some ⟨r, 0, none⟩), .int .i64 l.length]).run Tryd.prog w.drew = .ok (.string ⟨l.toArray⟩) (w.drew.freeze ⟨r, 0, none⟩ l.length) := by
    refine Go.Lib.run_unsafeString_row w.drew 92 3 9 5 Tryd.underlying92 h_cellsByte r cur.size (by have hg' : w.drew.heap[r]? = some (.cells cur 5 (0, 0)) := hg; simp [World.shape?, hg']) l h0 (by omega) (by unfold maxLen at hcm; omega) ?_
    intro j x hx
    exact hown.cells (g := r) rfl j (.int .u8 x.toNat) (by simp [byteCells, hx])
  have HB := Aside0.mk hbg
  have mixed : Tryd.prog.follows .mixedOrders = true := by kernel_rfl
  clear h hbk hown hg htake hbg
  go_enter Tryd.func36, Tryd.ntmps36
  go_wp2
  go_region_o
  all_goals (go_wp2; go_ret; exact ⟨rfl, Go.Lib.below_freeze (Below.drew (Below.refl B w)) (p := ⟨r, 0, none⟩) HB.out _⟩)
/-- What text returns. -/
def printer_text.f (l : List UInt8) : Option (ByteArray × Int) := if l = [] then none else if 20000 < l.length then some (⟨#[]⟩, 4) else some (⟨l.toArray⟩, 0)
set_option maxHeartbeats 2000000 in
set_option maxRecDepth 100000 in
theorem h_text (B g mb : Nat) (v : Value) (l : List UInt8) (s : ByteArray) (e : Int) (w : World) (h : OutAt B w g v mb l) (hf : printer_text.f l = some (s, e)) :
    Calls Tryd.prog 21 #[.pointer (some ⟨g, 0, none⟩)] w fun x w' => x = .returned (.tuple #[.string s, .int .i64 e]) ∧ Below B w w' := by
  unfold printer_text.f at hf
  split at hf
  · cases hf
  rename_i h0
  have HO := Aside0.mk h
  have H0 := Aside0.mk h0
  clear h h0
  by_cases c : 20000 < l.length
  · rw [if_pos c] at hf
    obtain ⟨rfl, rfl⟩ := hf
    have cb : decide ((20000 : Int) < (l.length : Int)) = true := decide_eq_true (by omega)
    clear c
    go_enter Tryd.func21, Tryd.ntmps21
    go_wp2_with (go_at_call 35; refine (h_Len B g mb v l _ HO.out).mono ?_; rintro e w' ⟨rfl, rfl⟩)
    go_ret2
    exact ⟨rfl, Below.refl _ _⟩
  · rw [if_neg c] at hf
    obtain ⟨rfl, rfl⟩ := hf
    have cb : decide ((20000 : Int) < (l.length : Int)) = false := decide_eq_false (by omega)
    clear c
    go_enter Tryd.func21, Tryd.ntmps21
    go_wp2_with (first
      | (go_at_call 35; refine (h_Len B g mb v l _ HO.out).mono ?_; rintro e w' ⟨rfl, rfl⟩)
      | (go_at_call 36; refine (h_String B g mb v l _ HO.out H0.out).mono ?_; rintro e w1 ⟨rfl, hb⟩; have B1 := Aside0.mk hb; clear hb))
    go_ret2
    exact ⟨rfl, B1.out⟩

-- IMPORT Derived.Outline Derived.Deep.RegionWith
open Go.Lib (repeatL)
/-- How a line begins. -/
def lineOf (d : Int) : List UInt8 := 10 :: repeatL [32, 32] d.toNat
set_option maxHeartbeats 2000000 in
set_option maxRecDepth 100000 in
theorem h_line (B g mb : Nat) (v : Value) (l : List UInt8) (d : Int) (w : World) (h : OutAt B w g v mb l) (h0 : 0 ≤ d) (h1 : d ≤ 1000) (hlen : l.length + 2010 ≤ 140737488355328) :
    Calls Tryd.prog 55 #[.pointer (some ⟨g, 0, none⟩), .int .i64 d] w fun e w' => e = .returned (.tuple #[]) ∧ ∃ v', OutAt B w' g v' mb (l ++ lineOf d) ∧ OutR g w v w' v' := by
  obtain ⟨n, rfl⟩ : ∃ n : Nat, d = n := ⟨d.toNat, by omega⟩
  have HO := Aside0.mk h
  have HL := Aside0.mk hlen
  clear h hlen
  go_enter Tryd.func55, Tryd.ntmps55
  go_wp2_with (first
    | (go_at_call 62; refine (Tryd.strings_Repeat ⟨#[32, 32]⟩ n _ (by omega) (by show 2 * n ≤ _; omega)).mono ?_; rintro e w1 ⟨rfl, hb⟩; have B1 := Aside0.mk hb; clear hb))
  refine (h_put_at B g mb v l [⟨#[10]⟩, ⟨(repeatL [32, 32] n).toArray⟩] _ 2 _ _ (by simp) (HO.out.below B1.out) rfl rfl (by have := HL.out; simp; have := Go.Lib.repeatL_length [32, 32] n; simp at this; omega) (by simp)).mono ?_
  rintro e w2 ⟨rfl, v2, h2, r2⟩
  have O2 := Aside0.mk h2
  have R2 := Aside0.mk r2
  clear h2 r2
  go_wp2_with fail
  go_end0
  exact ⟨rfl, v2, by simpa [lineOf] using O2.out, (OutR.of_below B1.out).trans R2.out⟩

-- IMPORT Derived.Outline Derived.Deep.RegionWith
def printer_PrintExpr.f (k : Nat) (a0 : Int) (a1 a2 : ByteArray) (a3 : Int) (l4 : List S25) : Option (ByteArray × Int) :=
  (observable_Check.f k a0 a1 a2 a3 l4).bind fun e => if e = 0 then (printer_expr.f k a0 a1 a2 a3 l4 0).bind fun t => if t.length ≤ 140737488355328 then printer_text.f t else none else some (⟨#[]⟩, e)
/-- A new writer. -/
theorem h_out_new (w : World) (mb : Nat) : OutAt w.heap.size (w.alloc (.cells #[.pointer none, .slice none 0 0, .map (some mb)] 54)) w.heap.size (.slice none 0 0) mb [] :=
  ⟨Nat.le_refl _, (below_alloc (Below.refl w.heap.size w) _).size, ⟨_, .inl rfl, blk_new w _⟩, ⟨rfl, .inl ⟨rfl, rfl⟩⟩⟩
set_option maxHeartbeats 4000000 in
set_option maxRecDepth 100000 in
theorem printer_PrintExpr.calls (k : Nat) (a0 : Int) (a1 a2 : ByteArray) (a3 : Int) (A4 : Option Addr) (c4 : Nat) (l4 : List S25) (s : ByteArray) (x : Int) (w : World) (hG : ShG w) (hr : Kd.C k25 w A4 l4.length l4) (hc : l4.length ≤ c4) (h : printer_PrintExpr.f k a0 a1 a2 a3 l4 = some (s, x)) :
    Calls Tryd.prog 13 #[.agg #[.int .u8 a0, .string a1, .string a2, .int .i64 a3, .slice A4 l4.length c4]] w fun e w' => e = .returned (.tuple #[.string s, .int .i64 x]) ∧ Below w.heap.size w w' := by
  obtain ⟨e1, he, h1⟩ := Option.bind_eq_some_iff.mp h
  clear h
  have HE := Aside0.mk he
  have HG := Aside0.mk hG
  have HR := Aside0.mk hr
  have B1 := Aside0.mk (below_alloc (Below.refl w.heap.size w) (.cells #[.int .u8 a0, .string a1, .string a2, .int .i64 a3, .slice A4 l4.length c4] 25))
  have K1 := Aside0.mk (blk_new w (.cells #[.int .u8 a0, .string a1, .string a2, .int .i64 a3, .slice A4 l4.length c4] 25))
  clear he hG hr
  by_cases c1 : e1 = 0
  · rw [if_pos c1] at h1
    obtain ⟨t, ht, h2⟩ := Option.bind_eq_some_iff.mp h1
    by_cases c2 : t.length ≤ 140737488355328
    case neg => rw [if_neg c2] at h2; cases h2
    rw [if_pos c2] at h2
    have HT := Aside0.mk ht
    have HX := Aside0.mk h2
    have C2 := Aside0.mk c2
    have c1b : (e1 == 0) = true := beq_iff_eq.mpr c1
    clear h1 h2 c1 ht c2
    go_enter Tryd.func13, Tryd.ntmps13
    go_wp2_with (first
      | (go_at_call 22; refine (observable_Check.calls k _ _ _ _ _ _ _ e1 _ (HG.out.below B1.out) (Kd.C_below HR.out B1.out) hc HE.out).mono ?_; rintro e w' ⟨rfl, hb⟩; have B2 := Aside0.mk (below_step B1.out hb); have K2 := Aside0.mk (blk_below K1.out hb); clear hb; try (obtain ⟨x0_1, x1_1, x2_1, x3_1, x4_1⟩ := h_box5 K2.out))
      | (go_at_call 19; refine (h_words _).mono ?_; rintro e w3 ⟨rfl, hm, hb, _⟩; have M3 := Aside0.mk hm.out; have B3 := Aside0.mk (below_step B2.out hb); have K3 := Aside0.mk (blk_below K2.out hb); clear hb hm; clear x0_1 x1_1 x2_1 x3_1 x4_1; have B4 := Aside0.mk (below_alloc (Below.refl w3.heap.size w3) (.cells #[.pointer none, .slice none 0 0, .map (some w'.heap.size)] 54)); have K4 := Aside0.mk (blk_below K3.out B4.out); obtain ⟨x0_1, x1_1, x2_1, x3_1, x4_1⟩ := h_box5 K4.out))
    clear x0_1 x1_1 x2_1 x3_1 x4_1
    obtain ⟨om, hm, hw⟩ := M3.out
    have O4 := Aside0.mk (h_out_new w3 w'.heap.size)
    have B05 := Aside0.mk (below_step B3.out B4.out)
    have M4 := Aside0.mk (blk_below hm B4.out)
    have HW := Aside0.mk hw
    clear hm hw M3
    refine (h_expr_all k _ _ _ _ _ _ _ _ t w3 _ _ _ _ om [] B4.out O4.out M4.out HW.out (Kd.C_below HR.out B3.out) hc HT.out (by simpa using C2.out)).mono ?_
    rintro e w5 ⟨rfl, v5, h5, r5⟩
    have O5 := Aside0.mk h5
    have B5 := Aside0.mk (B4.out.trans (O4.out.step r5))
    clear h5 r5
    go_wp2_with (go_at_call 21; refine (h_text _ _ _ _ _ s x _ O5.out HX.out).mono ?_; rintro e w6 ⟨rfl, hb⟩; have B6 := Aside0.mk (B5.out.trans hb); clear hb)
    go_ret2
    exact ⟨rfl, below_step B3.out B6.out⟩
  · rw [if_neg c1] at h1
    have h1' := Option.some.inj h1
    have e2 : s = ⟨#[]⟩ := (congrArg Prod.fst h1').symm
    have e3 : x = e1 := (congrArg Prod.snd h1').symm
    subst e2 e3
    clear h1 h1'
    have c1b : (x == 0) = false := beq_eq_false_iff_ne.mpr c1
    go_enter Tryd.func13, Tryd.ntmps13
    go_wp2_with (first
      | (go_at_call 22; refine (observable_Check.calls k _ _ _ _ _ _ _ x _ (HG.out.below B1.out) (Kd.C_below HR.out B1.out) hc HE.out).mono ?_; rintro e w' ⟨rfl, hb⟩; have B2 := Aside0.mk (below_step B1.out hb); have K2 := Aside0.mk (blk_below K1.out hb); clear hb; try (obtain ⟨x0_1, x1_1, x2_1, x3_1, x4_1⟩ := h_box5 K2.out)))
    go_ret2
    exact ⟨rfl, B2.out⟩

end Go.Proofs.YtalaekadkjhldaaDoor.Pr
