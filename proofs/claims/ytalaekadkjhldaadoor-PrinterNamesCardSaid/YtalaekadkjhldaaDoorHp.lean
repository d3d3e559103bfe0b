/- Proved: the card of the statement PrinterNames (the chapter's examples, further texts and errors): the law returns true; it takes no input; the two listed package variables are tied to the program's text by the card. -/
import Derived.Test.YtalaekadkjhldaaDoorPn0
import Derived.Test.YtalaekadkjhldaaDoorPn1
import Derived.Test.YtalaekadkjhldaaDoorPn2
import Derived.Test.YtalaekadkjhldaaDoorPn3
import Derived.Test.YtalaekadkjhldaaDoorPn4
import Derived.Test.YtalaekadkjhldaaDoorPn5
import Derived.Test.YtalaekadkjhldaaDoorPn6
import Derived.Outline
import Derived.Test.YtalaekadkjhldaaDoorRows
import Derived.ProofKit
import Derived.LaidMore
import Derived.OpenShut
import Derived.Stop.Joined
import Derived.Maps.Keyed
import Derived.Laws.IdiomElems
import Derived.WideKeyArgs2
import Derived.WalkKit
import Derived.Below
import Derived.ChangeOld
import Derived.Test.YtalaekadkjhldaaDoorCards
import Derived.Test.YtalaekadkjhldaaDoorTie
import Derived.SevenTiedAt
import Derived.Test.YtalaekadkjhldaaDoorShelf
import Derived.Test.YtalaekadkjhldaaDoorHa
import Derived.Test.YtalaekadkjhldaaDoorHb
import Derived.Test.YtalaekadkjhldaaDoorHc
import Derived.Test.YtalaekadkjhldaaDoorHd
import Derived.Test.YtalaekadkjhldaaDoorHe
import Derived.Test.YtalaekadkjhldaaDoorHf
import Derived.Test.YtalaekadkjhldaaDoorHg
import Derived.Test.YtalaekadkjhldaaDoorHh
import Derived.Test.YtalaekadkjhldaaDoorHi
import Derived.Test.YtalaekadkjhldaaDoorHj
import Derived.Test.YtalaekadkjhldaaDoorHk
import Derived.Test.YtalaekadkjhldaaDoorHl
import Derived.Test.YtalaekadkjhldaaDoorHm
import Derived.Test.YtalaekadkjhldaaDoorHn
import Derived.Test.YtalaekadkjhldaaDoorHo
namespace Go.Proofs.YtalaekadkjhldaaDoor.Pr
open Go.RowKit Go.Proofs.YtalaekadkjhldaaDoorW.PrintWords Go.Proofs.YtalaekadkjhldaaDoorW.PrintLast Go.Proofs.YtalaekadkjhldaaDoorW.PrintMore
attribute [local go_sem] max2_int min2_int max_two min_two max_three min_three max_four min_four
set_option linter.unusedVariables false
set_option linter.unusedSimpArgs false
-- IMPORT Derived.Outline Derived.Test.YtalaekadkjhldaaDoorRows Derived.ProofKit Derived.LaidMore Derived.OpenShut Derived.Stop.Joined Derived.Maps.Keyed Derived.Laws.IdiomElems Derived.WideKeyArgs2
open Go.ChangeShapes Go.WideShapes Go.ChangeAt Go.WideMaps Go.WideElems Go.RowKit
theorem p_own : ownKnob Tryd.prog.godebug = none := by kernel_rfl
theorem p_gShapes : Tryd.prog.globalNamed "novation/observable.shapes" = some 1 := by kernel_rfl
theorem p_gParts : Tryd.prog.globalNamed "novation/contract.parts" = some 0 := by kernel_rfl
theorem p_tShapes : (Tryd.prog.globals[1]?).map (·.type) = some 97 := by kernel_rfl
theorem p_tParts : (Tryd.prog.globals[0]?).map (·.type) = some 81 := by kernel_rfl
def laid2 {H : Type} : List (String × DataW H) := [("novation/observable.shapes", Rows.laid_novation_observable_shapes), ("novation/contract.parts", Rows.laid_novation_contract_parts)]
theorem p_cellsShape : Tryd.prog.cellsOf 95 = 2 := by kernel_rfl
theorem p_cells1 : Tryd.prog.cellsOf 93 = 1 := by kernel_rfl
theorem p_cells2 : Tryd.prog.cellsOf 73 = 1 := by kernel_rfl
set_option maxRecDepth 100000 in
/-- An element of 'shapes'. -/
theorem h_elemShape {W : World} {base n : Nat} {sp : Nat → Bool} {held : Bool} {H : Type} {enc : TypeId × Value → H} {v : Value} {z : DataW H × List MemPlace} (h : elemAt enc Tryd.prog W base sp held n 95 v = some z) (ps : List Int) (own : Int) (hps : ps ≠ [])
    (hz : z.1 = .agg [.slice (ps.map fun p => .lit (.int .u8 p)) [], .lit (.int .u8 own)]) : ∃ A c, v = .agg #[.slice A ps.length c, .int .u8 own] ∧ ps.length ≤ c ∧ Kd.C (Kd.int .u8) W A ps.length ps := by
  unfold elemAt at h
  split at h
  · rename_i hf
    obtain ⟨y0, y1, m, rfl, hl, g0, g1⟩ := trod_struct2 Tryd.underlying95 h
    obtain ⟨b, e1, rfl, wb⟩ := DataW.trod_int Tryd.underlying73 g1
    cases v <;> simp [Value.formed, Tryd.underlying95] at hf
    rename_i cs
    obtain ⟨l⟩ := cs
    rw [p_cellsShape] at hl
    simp [Value.cells] at hl
    match l, hl with
    | [x0, x1], _ =>
      simp [Value.cells, p_cells2] at e1
      subst e1
      simp only [p_cells1] at g0
      simp only [DataW.agg.injEq, List.cons.injEq, DataW.lit.injEq, Lit.int.injEq, true_and, and_true] at hz
      obtain ⟨hz0, rfl⟩ := hz
      rcases open_ints Tryd.underlying93 Tryd.underlying73 p_cells2 g0 with ⟨_, rfl⟩ | ⟨a, len, cap, zs, hcs, _, hlc, hcm, hlen, rfl, hcell, _⟩
      · cases hz0
      · simp only [DataW.slice.injEq] at hz0
        have hx0 : x0 = .slice (some a) len cap := by simpa [Value.cells] using hcs
        subst hx0
        have htake : zs.take len = ps := by
          have h1 := hz0.1
          unfold lits at h1
          have h2 := congrArg (List.map (fun d : DataW H => match d with | .lit (.int _ n) => n | _ => 0)) h1
          simpa [List.map_map, Function.comp_def] using h2
        have hle : len ≤ zs.length := by rw [hlen]; split <;> omega
        have hpl : ps.length = len := by rw [← htake, List.length_take]; omega
        refine ⟨some a, cap, by rw [hpl], by omega, ?_⟩
        refine Kd.C_of_reads (enc := Value.int .u8) (d := (0 : Int)) (h1 := fun _ => rfl) ⟨rfl, by unfold maxLen at hcm; omega, fun _ => ⟨_, rfl, fun j hj => ?_⟩⟩
        have := hcell j (by omega)
        rw [this]
        rw [← htake]
        simp [List.getD_eq_getElem?_getD, List.getElem?_take, show j < len by omega]
  · cases h
theorem p_zeroShape (W : World) : (zeroValue 95).run Tryd.prog W = .ok (.agg #[.slice none 0 0, .int .u8 0]) W := by kernel_rfl
theorem p_zeroInt (W : World) : (zeroValue 3).run Tryd.prog W = .ok (.int .i64 0) W := by kernel_rfl
def shD {H : Type} (k : Int) : DataW H := .agg [.slice ((shP k).map fun p => .lit (.int .u8 p)) [], .lit (.int .u8 (shO k))]
theorem h_shapesD {H : Type} (k : Int) (h0 : 0 ≤ k) (h1 : k < 256) (z : DataW H) : (Rows.laid_novation_observable_shapes : DataW H).atKey (.int .u8 k) z = if shB k = true then shD k else z := by
  by_cases hk : 4 ≤ k ∧ k ≤ 15
  · have : k = 4 ∨ k = 5 ∨ k = 6 ∨ k = 7 ∨ k = 8 ∨ k = 9 ∨ k = 10 ∨ k = 11 ∨ k = 12 ∨ k = 13 ∨ k = 14 ∨ k = 15 := by omega
    rcases this with h | h | h | h | h | h | h | h | h | h | h | h <;> subst h <;> rfl
  · have hb : shB k = false := by
      unfold shB
      have e1 : decide (4 ≤ k ∧ k ≤ 9) = false := decide_eq_false (by omega)
      have e2 : decide (11 ≤ k ∧ k ≤ 15) = false := decide_eq_false (by omega)
      rw [e1, e2]; rfl
    have hm : ∀ j : Int, 4 ≤ j ∧ j ≤ 15 → (Lit.int .u8 j).sameKey (Lit.int .u8 k) = false := fun j hj => by
      have : ¬ j = k := fun e => hk (e ▸ hj)
      simp [Lit.sameKey, this]
    rw [hb, if_neg (by decide)]
    simp [Rows.laid_novation_observable_shapes, DataW.atKey, List.find?, hm 4 (by omega), hm 5 (by omega), hm 6 (by omega), hm 7 (by omega), hm 8 (by omega), hm 9 (by omega), hm 11 (by omega), hm 12 (by omega), hm 13 (by omega), hm 14 (by omega), hm 15 (by omega)]
theorem h_partsD {H : Type} (k : Int) (h0 : 0 ≤ k) (h1 : k < 256) (z : DataW H) : (Rows.laid_novation_contract_parts : DataW H).atKey (.int .u8 k) z = if partsB k = true then .lit (.int .i64 (partsV k)) else z := by
  by_cases hk : 1 ≤ k ∧ k ≤ 10
  · have : k = 1 ∨ k = 2 ∨ k = 3 ∨ k = 4 ∨ k = 5 ∨ k = 6 ∨ k = 7 ∨ k = 8 ∨ k = 9 ∨ k = 10 := by omega
    rcases this with h | h | h | h | h | h | h | h | h | h <;> subst h <;> rfl
  · have hb : partsB k = false := decide_eq_false hk
    have hm : ∀ j : Int, 1 ≤ j ∧ j ≤ 10 → (Lit.int .u8 j).sameKey (Lit.int .u8 k) = false := fun j hj => by
      have : ¬ j = k := fun e => hk (e ▸ hj)
      simp [Lit.sameKey, this]
    rw [hb, if_neg (by decide)]
    simp [Rows.laid_novation_contract_parts, DataW.atKey, List.find?, hm 1 (by omega), hm 2 (by omega), hm 3 (by omega), hm 4 (by omega), hm 5 (by omega), hm 6 (by omega), hm 7 (by omega), hm 8 (by omega), hm 9 (by omega), hm 10 (by omega)]
theorem shP_ne (k : Int) (h : shB k = true) : shP k ≠ [] := by
  unfold shB at h
  simp at h
  have : k = 4 ∨ k = 5 ∨ k = 6 ∨ k = 7 ∨ k = 8 ∨ k = 9 ∨ k = 11 ∨ k = 12 ∨ k = 13 ∨ k = 14 ∨ k = 15 := by omega
  rcases this with h | h | h | h | h | h | h | h | h | h | h <;> subst h <;> decide
theorem shP_no (k : Int) (h : shB k = false) : shP k = [] ∧ shO k = 0 := by
  unfold shB at h
  simp at h
  unfold shP shO
  constructor
  · rw [if_neg (by omega), if_neg (by omega), if_neg (by omega), if_neg (by omega)]
  · rw [if_neg (by omega), if_neg (by omega)]
theorem partsV_no (k : Int) (h : partsB k = false) : partsV k = 0 := by
  unfold partsB at h
  have h2 : ¬ (1 ≤ k ∧ k ≤ 10) := of_decide_eq_false h
  unfold partsV
  rw [if_neg (by omega), if_neg (by omega), if_neg (by omega), if_neg (by omega), if_neg (by omega), if_neg (by omega), if_neg (by omega), if_neg (by omega), if_neg (by omega)]
theorem pw_eq {α β γ : Type} {f : α → β × γ} {x y : α} : ∀ {l : List α}, (l.map f).Pairwise (fun p q => p.1 ≠ q.1) → x ∈ l → y ∈ l → (f x).1 = (f y).1 → x = y
  | [], _, hx, _, _ => absurd hx (by simp)
  | a :: l, h, hx, hy, he => by
    rw [List.map_cons, List.pairwise_cons] at h
    rcases List.mem_cons.1 hx with rfl | hx' <;> rcases List.mem_cons.1 hy with rfl | hy'
    · rfl
    · exact absurd he (h.1 _ (List.mem_map.2 ⟨y, hy', rfl⟩))
    · exact absurd he.symm (h.1 _ (List.mem_map.2 ⟨x, hx', rfl⟩))
    · exact pw_eq h.2 hx' hy' he
/-- One entry bears a key. -/
theorem one_entry {H : Type} {P : Program} {k : TypeId} {R : Value → Option (DataW H × List MemPlace)} {es : Array MapEntry} {clock : Nat} (K : Go.Maps.Keyed P k) (F : Fit P k R es clock) {a b : MapEntry} (ha : a ∈ es.toList) (hb : b ∈ es.toList) (he : a.key = b.key) : a = b := by
  obtain ⟨y, hy⟩ := F.reads a ha
  obtain ⟨z, hz⟩ := F.reads b hb
  refine pw_eq (Go.Maps.fit_apart K F) ha hb ?_
  rw [rg_of hy, rg_of hz]
  have h1 := rd_key hy
  have h2 := rd_key hz
  rw [he, h2] at h1
  exact (Option.some.inj h1).symm
set_option maxRecDepth 100000 in
theorem of_laid {W : World} (h : laidMetH Tryd.prog laid2 W) : ShG W ∧ PtG W := by
  rw [MakeChecks.laidMetH_plain _ _ _ (by kernel_rfl)] at h
  obtain ⟨ps, ⟨g0, t0, cs0, f0, p0, q0, hg0, ht0, hv0, hd0, ⟨g1, t1, cs1, f1, p1, q1, hg1, ht1, hv1, hd1, _, _⟩, _⟩, _, _⟩ := h
  obtain rfl := Option.some.inj (p_gShapes.symm.trans hg0)
  obtain rfl := Option.some.inj (p_gParts.symm.trans hg1)
  obtain rfl := Option.some.inj (p_tShapes.symm.trans ht0)
  obtain rfl := Option.some.inj (p_tParts.symm.trans ht1)
  constructor
  · rcases open_map Tryd.underlying97 hd0 with ⟨_, hx⟩ | ⟨bm, es, clock, m, rfl, hcs, hb, _, F, hx⟩
    · simp [Rows.laid_novation_observable_shapes] at hx
    simp only [Prod.mk.injEq] at hx
    have hcell : W.cell? ⟨1, 0, none⟩ = some (.map (some bm)) := by
      have := World.var?_cell hg0 hv0 0
      rw [Array.eq_one_of_toList hcs] at this
      simpa using this
    refine ⟨bm, hcell, fun k h0 h1 => ?_⟩
    have hblt := (Array.getElem?_eq_some_iff.1 hb).1
    cases hsb : shB k with
    | true =>
      rcases Go.Maps.fit_look (w := W) true (Go.Maps.int_keyed Tryd.underlying5) Tryd.underlying97 (p_zeroShape W) hb F (Go.Maps.keyOf_int_mk Tryd.underlying5 (h_u8wf k h0 h1)) with ⟨_, _, hat⟩ | ⟨e0, y, hm0, hk0, _, hR, hat, _⟩
      · have := hat .nil
        rw [← hx.1, h_shapesD k h0 h1, hsb, if_pos rfl] at this
        cases this
      · have h2 := hat .nil
        rw [← hx.1, h_shapesD k h0 h1, hsb, if_pos rfl] at h2
        obtain ⟨A, c, hv, hle, hC⟩ := h_elemShape hR (shP k) (shO k) (shP_ne k hsb) h2.symm
        refine ⟨A, c, hle, hC, fun W2 hW2 => ?_⟩
        have hb2 := (hW2.block bm hblt).trans hb
        rcases Go.Maps.fit_look (w := W2) true (Go.Maps.int_keyed Tryd.underlying5) Tryd.underlying97 (p_zeroShape W2) hb2 F (Go.Maps.keyOf_int_mk Tryd.underlying5 (h_u8wf k h0 h1)) with ⟨_, hno, _⟩ | ⟨e2, y2, hm2, hk2, hrun, _⟩
        · exact absurd hk0 (hno e0 hm0)
        · rw [one_entry (Go.Maps.int_keyed Tryd.underlying5) F hm2 hm0 (hk2.trans hk0.symm), hv] at hrun
          exact hrun
    | false =>
      obtain ⟨e1, e2⟩ := shP_no k hsb
      rw [e1, e2]
      refine ⟨none, 0, Nat.le_refl _, Kd.C_nil _ _, fun W2 hW2 => ?_⟩
      have hb2 := (hW2.block bm hblt).trans hb
      rcases Go.Maps.fit_look (w := W2) true (Go.Maps.int_keyed Tryd.underlying5) Tryd.underlying97 (p_zeroShape W2) hb2 F (Go.Maps.keyOf_int_mk Tryd.underlying5 (h_u8wf k h0 h1)) with ⟨hrun, _⟩ | ⟨e2, y2, _, _, _, hR, hat, _⟩
      · exact hrun
      · have h1' := hat .nil
        rw [← hx.1, h_shapesD k h0 h1, hsb, if_neg (by decide)] at h1'
        have h2' := hat (.lit (.bool true))
        rw [← hx.1, h_shapesD k h0 h1, hsb, if_neg (by decide), ← h1'] at h2'
        cases h2'
  · rcases open_map Tryd.underlying81 hd1 with ⟨_, hx⟩ | ⟨bm, es, clock, m, rfl, hcs, hb, _, F, hx⟩
    · simp [Rows.laid_novation_contract_parts] at hx
    simp only [Prod.mk.injEq] at hx
    have hcell : W.cell? ⟨0, 0, none⟩ = some (.map (some bm)) := by
      have := World.var?_cell hg1 hv1 0
      rw [Array.eq_one_of_toList hcs] at this
      simpa using this
    have hblt := (Array.getElem?_eq_some_iff.1 hb).1
    refine ⟨bm, hcell, fun k h0 h1 W2 hW2 => ?_⟩
    have hb2 := (hW2.block bm hblt).trans hb
    rcases Go.Maps.fit_look (w := W2) true (Go.Maps.int_keyed Tryd.underlying5) Tryd.underlying81 (p_zeroInt W2) hb2 F (Go.Maps.keyOf_int_mk Tryd.underlying5 (h_u8wf k h0 h1)) with ⟨hrun, _, hat⟩ | ⟨e2, y2, _, _, hrun, hR, hat, _⟩
    · have h1' := hat .nil
      cases hsb : partsB k with
      | true => rw [← hx.1, h_partsD k h0 h1, hsb, if_pos rfl] at h1'; cases h1'
      | false => rw [partsV_no k hsb]; exact hrun
    · obtain ⟨a, hv, rfl, _⟩ := elemAt_int Tryd.underlying3 hR
      cases hsb : partsB k with
      | true =>
        have h1' := hat .nil
        rw [← hx.1, h_partsD k h0 h1, hsb, if_pos rfl] at h1'
        cases h1'
        rw [hv] at hrun
        exact hrun
      | false =>
        have h1' := hat .nil
        rw [← hx.1, h_partsD k h0 h1, hsb, if_neg (by decide)] at h1'
        cases h1'

-- IMPORT Derived.WalkKit Derived.ProofKit Derived.LaidMore Derived.OpenShut Derived.Stop.Joined Derived.Below Derived.ChangeOld Derived.Test.YtalaekadkjhldaaDoorCards Derived.Test.YtalaekadkjhldaaDoorTie Derived.SevenTiedAt
open Go.ChangeShapes Go.WideShapes Go.ChangeAt Go.WideMaps Go.WideElems Go.RowKit
theorem h_door_met (os : Os) (args : Array Value) : laidMetH Tryd.prog laid2 ((World.doorLaid Tryd.prog 400 os).forCall (fun _ _ => 0) ⟨#[], args, []⟩).memory :=
  laidMetH_of_parts3 (fuel := 8) (laidMet_of_run' 8 (by kernel_rfl) (by kernel_rfl)) (by kernel_rfl) (by kernel_rfl)
set_option maxRecDepth 100000 in
theorem names_lifted (os : Os) (started : os.Started) (H : Type) (enc : TypeId × Value → H) :
    ReturnsInHanded {} Tryd.checked os 5 .any (fun w args => (Rows.printerNamesSpec.pre enc Tryd.prog Tryd.f5 [] false w args ∧ laidMetH Tryd.prog laid2 w) ∧ sizedMet enc Tryd.prog Tryd.f5 (OpenSpec.ofChange Rows.printerNamesSpec) false w args)
      (Rows.printerNamesSpec.post enc Tryd.prog Tryd.f5 false true false false) := by
  refine returnsInHanded_of_change_and (C := Tryd.checked) (X := fun w _ => laidMetH Tryd.prog laid2 w) (fun _ _ _ hh h => h.of_heap hh) p_own started (by kernel_rfl) Tryd.func5
    (ChangeSpec.witness_shaped (enc := enc) (C := Tryd.checked) (os := os) (X := fun w _ => laidMetH Tryd.prog laid2 w) false (World.doorLaid Tryd.prog 400 os) #[] 8 rfl (World.shaped_of_RefB (by kernel_rfl) (by kernel_rfl)) (by kernel_rfl) (by kernel_rfl) (by kernel_rfl) (h_door_met os _)) ?_
  intro W base args ds gs before hval0 hW _ _ hL _
  have hW' := hW
  obtain ⟨p, q, hA0, hV, rfl, hfz, hnd⟩ := hW
  have hA : DataW.TrodAll enc Tryd.prog W 0 (fun _ => true) true Tryd.f5.params.toList args.toList ds p := hA0
  rw [Tryd.params5] at hA
  obtain ⟨rfl, rfl, rfl⟩ := trodAll_none hA
  obtain ⟨rfl, rfl⟩ := trodVars_none hV
  obtain ⟨hG, hP⟩ := of_laid hL
  clear hA0 hval0
  refine (h_names W hG hP).mono fun e W' ⟨he, bel⟩ => ?_
  subst he
  exact ⟨_, rfl, _, _, _, [], _, [], hW', trodAll_mk1 (shut_bool Tryd.underlying4 _), trodAll_mk0, rfl, bel.frame _, fun h => by cases h⟩
theorem names_row : Rows.PrinterNamesSaid :=
  OpenClaim.holds_of_wide 5 Tryd.f5 rfl rfl rfl rfl rfl rfl rfl ⟨rfl, rfl, rfl, rfl, rfl⟩ rfl rfl rfl rfl rfl (by kernel_rfl) Tryd.func5 (by kernel_rfl)
    (of_decide_eq_true (by kernel_rfl)) (by unfold Func.isWrapper; first | (rw [if_pos (by decide +kernel)]; kernel_rfl) | (rw [if_neg (by decide +kernel)]; exact ⟨rfl, rfl⟩))
    (fun os started H enc _ => names_lifted os started H enc)
theorem names_card : Rows.PrinterNamesCardSaid :=
  Claim7.holds_tied_plain_at .later [] [.mappedDeep, .mapped] true (true, "fc525c79b0eda67d7f7b4e74bc951810f9ff701e29494a6323db180cfa5a064b") false
    names_row (fun _ h => by cases h) (by kernel_rfl) (fun _ h => by cases h) printerNames_row_tie rfl ⟨rfl, rfl⟩ (by kernel_rfl) rfl
    (fun f fn hf hfn => by
      obtain rfl : f = 5 := Option.some.inj ((show Tryd.prog.funcNamed "novation/novationlaw14.PrinterNames" = some 5 by kernel_rfl).symm.trans hf) |>.symm
      obtain rfl : fn = Tryd.f5 := (Option.some.inj (Tryd.func5.symm.trans hfn)).symm
      exact ⟨by kernel_rfl, fun j t ht => by
        rw [Tryd.params5] at ht
        simp at ht⟩)
    (by kernel_rfl)
end Go.Proofs.YtalaekadkjhldaaDoor.Pr
namespace Go.Proofs.YtalaekadkjhldaaDoor
/-- The card of PrinterNames. -/
theorem printerNames_card : Rows.PrinterNamesCardSaid := Pr.names_card
end Go.Proofs.YtalaekadkjhldaaDoor
namespace Go.Proofs.YtalaekadkjhldaaDoor.Pr

end Go.Proofs.YtalaekadkjhldaaDoor.Pr
