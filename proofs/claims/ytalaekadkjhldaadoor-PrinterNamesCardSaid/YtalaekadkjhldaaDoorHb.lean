/- A part of the proof of the statement PrinterNames (the printer's examples, further texts and errors): contracts of functions of the program, proved by walking their text. -/
import Derived.Test.YtalaekadkjhldaaDoorPn0
import Derived.Test.YtalaekadkjhldaaDoorPn1
import Derived.Test.YtalaekadkjhldaaDoorPn2
import Derived.Test.YtalaekadkjhldaaDoorPn3
import Derived.Test.YtalaekadkjhldaaDoorPn4
import Derived.Test.YtalaekadkjhldaaDoorPn5
import Derived.Test.YtalaekadkjhldaaDoorPn6
import Derived.Lib.AppendStr
import Derived.OwnWalk
import Derived.Outline
import Derived.Lib.Builder
import Derived.Laws.Externs
import Derived.Lib.UnsafeStr
import Derived.Defers
import Derived.Tactics
import Derived.Deep.RegionHeld3
import Derived.Deep.RegionWith
import Derived.StillTailTactics
import Derived.Test.YtalaekadkjhldaaDoorShelf
import Derived.Test.YtalaekadkjhldaaDoorHa
namespace Go.Proofs.YtalaekadkjhldaaDoor.Pr
open Go.RowKit Go.Proofs.YtalaekadkjhldaaDoorW.PrintWords Go.Proofs.YtalaekadkjhldaaDoorW.PrintLast Go.Proofs.YtalaekadkjhldaaDoorW.PrintMore
attribute [local go_sem] max2_int min2_int max_two min_two max_three min_three max_four min_four
set_option linter.unusedVariables false
set_option linter.unusedSimpArgs false
-- IMPORT Derived.Lib.AppendStr Derived.OwnWalk Derived.Outline
/-- Where the row of append(v, s...) lies: in v's own block, or in a new one. -/
theorem h_append_str_at {P : Program} (w : World) (base : Nat) (t u ty e : TypeId) (i : TypeInfo) (ht : P.underlying t = some (.slice e)) (hu : P.underlying u = some .string) (hi : P.info? e = some i) (hz : i.zero = some (.int .u8 0))
    (hsize : i.size = 1) (hby : i.bytes = 1) (v : Value) (n : Nat) (xs : List Value) (hown : w.ownsRow base e 1 v n xs) (s : ByteArray)
    (hbytes : n + s.size ≤ 140737488355328) (hbase : base ≤ w.heap.size) :
    ∃ v' w', (Builtin.append_ #[t, u] ty #[v, .string s]).run P w = .ok v' w' ∧ w'.ownsRow base e 1 v' (n + s.size) (xs ++ Go.Lib.strCells s) ∧ w.grownBy w' v.ownBlock ∧
      (v'.ownBlock = v.ownBlock ∨ ∀ k, v'.ownBlock = some k → w.heap.size ≤ k) := by
  have h63 : n + s.size ≤ maxLen := by unfold maxLen; omega
  obtain ⟨v', w', hr, h2, h3, h4⟩ := Go.Lib.run_append_own_string (P := P) w base t u ty e i ht hu hi hz hsize hby v n xs hown s h63 hbytes hbase
  refine ⟨v', w', hr, h2, h3, ?_⟩
  rcases hown.2 with ⟨rfl, rfl⟩ | ⟨g, cap, cur, rfl, hbg, hg, hnc, hcm, hcs, htake⟩
  · obtain ⟨v2, w2, hr2, g2, _, _⟩ := Go.Lib.run_append_own_string (P := P) w w.heap.size t u ty e i ht hu hi hz hsize hby (.slice none 0 0) 0 xs ⟨hown.1, .inl ⟨rfl, rfl⟩⟩ s h63 hbytes (Nat.le_refl _)
    rw [hr] at hr2
    injection hr2 with e1 e2
    subst e1
    exact .inr fun k hk => own_base g2 k hk
  · have hcs' : cur.size = cap := by simpa using hcs
    by_cases hroom : n + s.size ≤ cap
    · have hr2 := Go.Lib.run_append_room_string (P := P) w t u ty e i ht hu hi hsize g n cap cur hg s hroom (by omega)
      rw [hr] at hr2
      injection hr2 with e1 e2
      subst e1
      exact .inl rfl
    · have hxl : xs.length = n := by simpa using hown.1
      have holds : ∀ j u, xs[j]? = some u → w.cell? ((⟨g, 0, none⟩ : Addr).add j) = some u := hown.cells (g := g) rfl
      have hr2 := Go.Lib.run_append_grow_string (P := P) w t u ty e i (.int .u8 0) ht hu hi hz ⟨g, 0, none⟩ n cap xs (by rw [hsize]; simpa using hxl) holds s (by omega) (by omega) (by rw [hby]; exact growslice_fits (by omega) (by omega))
      rw [hr] at hr2
      injection hr2 with e1 e2
      subst e1
      exact .inr fun k hk => by simp [Value.ownBlock] at hk; omega
theorem h_wp_append_str {P : Program} {w : World} {ops : Array Oper} {rest : List Oper} {o : Oper} {a : Act} {Q : Exit → Act → World → Prop} (hgd : o.guard = none) (sl x : Operand) (t u : TypeId)
    (ho : o.op = .call { callee := .builtin .append, args := #[sl, x], argTypes := #[t, u] })
    (base : Nat) (e : TypeId) (i : TypeInfo) (ht : P.underlying t = some (.slice e)) (hu : P.underlying u = some .string) (hi : P.info? e = some i) (hz : i.zero = some (.int .u8 0))
    (hsize : i.size = 1) (hby : i.bytes = 1) (v : Value) (n : Nat) (xs : List Value) (hs : a.eval sl = v) (hown : w.ownsRow base e 1 v n xs) (s : ByteArray) (hx : a.eval x = .string s)
    (hbytes : n + s.size ≤ 140737488355328) (hbase : base ≤ w.heap.size)
    (h : ∀ v' w', w'.ownsRow base e 1 v' (n + s.size) (xs ++ Go.Lib.strCells s) → w.grownBy w' v.ownBlock → (v'.ownBlock = v.ownBlock ∨ ∀ k, v'.ownBlock = some k → w.heap.size ≤ k) → wpList P ops Q rest (a.put o.dst v') w') : wpList P ops Q (o :: rest) a w := by
  refine wpList_plain hgd fun K hK => ?_
  obtain ⟨v', w', hr, h2, h3, h4⟩ := h_append_str_at (P := P) w base t u o.type e i ht hu hi hz hsize hby v n xs hown s hbytes hbase
  unfold Oper.wp execOp
  simp only [ho, resolve, invoke, builtin, Sem.run_bind, Sem.run_pure, Result.andThen_ok, List.map_toArray, List.map_cons, List.map_nil, hs, hx, hr]
  exact hK _ _ (h v' w' h2 h3 h4)

-- IMPORT Derived.Lib.Builder Derived.Laws.Externs Derived.Outline Derived.Lib.UnsafeStr
open Go.Lib (byteCells strCells)
theorem h_outSize : (Tryd.prog.info? 52).map (·.size) = some 2 := by kernel_rfl
theorem h_outLies : liesAt Tryd.prog Tryd.prog.depth 54 (3 / Tryd.prog.cellsOf 54) 0 52 1 = true := by kernel_rfl
theorem h_infoByte : (Tryd.prog.info? 5).map (fun i => (i.zero, i.size, i.bytes)) = some (some (.int .u8 0), 1, 1) := by kernel_rfl
/-- The writer 'out' in block g: its text so far is l; its buffer is v; its words are the map in block mb. -/
structure OutAt (B : Nat) (w : World) (g : Nat) (v : Value) (mb : Nat) (l : List UInt8) : Prop where
  ge : B ≤ g
  sz : B ≤ w.heap.size
  blk : ∃ a, (a = .pointer none ∨ a = .pointer (some ⟨g, 0, none⟩)) ∧ w.heap[g]? = some (.cells #[a, v, .map (some mb)] 54 (0, 0))
  own : w.ownsRow B 5 1 v l.length (byteCells l)
/-- What a step of the writer leaves: all blocks but its own and its buffer's are as they were. -/
structure OutR (g : Nat) (w : World) (v : Value) (w' : World) (v' : Value) : Prop where
  os : w'.os = w.os
  tape : w'.tape = w.tape
  output : w'.output = w.output
  size : w.heap.size ≤ w'.heap.size
  keep : ∀ i, i < w.heap.size → i ≠ g → v.ownBlock ≠ some i → w'.heap[i]? = w.heap[i]?
  row : v'.ownBlock = v.ownBlock ∨ ∀ k, v'.ownBlock = some k → w.heap.size ≤ k
theorem OutR.refl (g : Nat) (w : World) (v : Value) : OutR g w v w v := ⟨rfl, rfl, rfl, Nat.le_refl _, fun _ _ _ _ => rfl, .inl rfl⟩
theorem OutR.trans {g : Nat} {w w1 w2 : World} {v v1 v2 : Value} (h : OutR g w v w1 v1) (k : OutR g w1 v1 w2 v2) : OutR g w v w2 v2 := by
  refine ⟨k.os.trans h.os, k.tape.trans h.tape, k.output.trans h.output, Nat.le_trans h.size k.size, fun i hi hg hv => ?_, ?_⟩
  · rw [k.keep i (Nat.lt_of_lt_of_le hi h.size) hg ?_, h.keep i hi hg hv]
    rcases h.row with e | e
    · rw [e]; exact hv
    · intro e2; have := e i e2; omega
  · rcases k.row with e | e
    · rw [e]; exact h.row
    · exact .inr fun j hj => Nat.le_trans h.size (e j hj)
theorem OutR.of_below {g : Nat} {w w' : World} {v : Value} (h : Below w.heap.size w w') : OutR g w v w' v := ⟨h.os, h.tape, h.output, h.size, fun i hi _ _ => h.block i hi, .inl rfl⟩
theorem OutAt.below {B g mb : Nat} {w w' : World} {v : Value} {l : List UInt8} (h : OutAt B w g v mb l) (hb : Below w.heap.size w w') : OutAt B w' g v mb l := by
  obtain ⟨a, ha, hg⟩ := h.blk
  exact ⟨h.ge, Nat.le_trans h.sz hb.size, ⟨a, ha, blk_below hg hb⟩, pw_own_below h.own hb⟩
/-- What lay below B is as it was. -/
theorem OutAt.step {B g mb : Nat} {w w' : World} {v v' : Value} {l : List UInt8} (h : OutAt B w g v mb l) (hr : OutR g w v w' v') : Below B w w' :=
  ⟨hr.os, hr.tape, hr.output, hr.size, fun i hi => hr.keep i (Nat.lt_of_lt_of_le hi h.sz) (by have := h.ge; omega) (fun e => by have := own_base h.own i e; omega)⟩
/-- A block that was laid apart from the writer is as it was. -/
theorem OutR.blk {g k : Nat} {w w' : World} {v v' : Value} {o : Obj} (hr : OutR g w v w' v') (hk : w.heap[k]? = some o) (hg : k ≠ g) (hv : v.ownBlock ≠ some k) : w'.heap[k]? = some o := (hr.keep k (blk_lt hk) hg hv).trans hk
theorem OutR.off {g k : Nat} {w w' : World} {v v' : Value} (hr : OutR g w v w' v') (hk : k < w.heap.size) (hv : v.ownBlock ≠ some k) : v'.ownBlock ≠ some k := by
  rcases hr.row with e | e
  · rw [e]; exact hv
  · intro e2; have := e k e2; omega
set_option maxHeartbeats 1000000 in
set_option maxRecDepth 100000 in
theorem h_copyCheck_used (g : Nat) (w : World) (h0 : w.cell? ⟨g, 0, none⟩ = some (.pointer (some ⟨g, 0, none⟩))) :
    Calls Tryd.prog 59 #[.pointer (some ⟨g, 0, none⟩)] w fun e w' => e = .returned (.tuple #[]) ∧ w' = w := by
  obtain ⟨j, hj, _⟩ := Option.map_eq_some_iff.1 h_outSize
  go_enter Tryd.func59, Tryd.ntmps59
  go_wp2
  rw [Go.Lib.run_neq_ptr_same w _ Tryd.underlying50 hj]
  go_wp2
  go_end0
  exact ⟨rfl, rfl⟩
set_option maxHeartbeats 1000000 in
set_option maxRecDepth 100000 in
theorem h_copyCheck_fresh (g : Nat) (w : World) (h0 : w.cell? ⟨g, 0, none⟩ = some (.pointer none)) (hsh : w.shape? g = some (54, 3)) (hfz : w.frozen? ⟨g, 0, none⟩ = false) :
    Calls Tryd.prog 59 #[.pointer (some ⟨g, 0, none⟩)] w fun e w' => e = .returned (.tuple #[]) ∧ w' = w.setCell ⟨g, 0, none⟩ (.pointer (some ⟨g, 0, none⟩)) := by
  obtain ⟨j, hj, hjs⟩ := Option.map_eq_some_iff.1 h_outSize
  go_enter Tryd.func59, Tryd.ntmps59
  go_wp2
  rw [Go.Lib.run_to_unsafe w ⟨g, 0, none⟩ Tryd.underlying50 Tryd.underlying107 hj (by rw [hjs]; decide) hsh (Nat.zero_lt_succ 2)]
  simp only [Result.andThen]
  rw [Oper.upon_value]
  go_wp2
  rw [run_callFunc_extern Tryd.func67 (by kernel_rfl) (by kernel_rfl) (by kernel_rfl) (e := Extern.AbiNoEscape.same) (by kernel_rfl)]
  rw [Go.Lib.run_noEscape]
  simp only [Result.andThen]
  rw [Oper.upon_value]
  go_wp2
  rw [Go.Lib.run_from_unsafe w ⟨g, 0, none⟩ Tryd.underlying107 Tryd.underlying50 hj hsh h_outLies]
  simp only [Result.andThen]
  rw [Oper.upon_value]
  go_wp2
  go_end0
  exact ⟨rfl, rfl⟩
theorem h_copyCheck (B g mb : Nat) (v : Value) (l : List UInt8) (w : World) (h : OutAt B w g v mb l) :
    Calls Tryd.prog 59 #[.pointer (some ⟨g, 0, none⟩)] w fun e w' => e = .returned (.tuple #[]) ∧ w'.heap[g]? = some (.cells #[.pointer (some ⟨g, 0, none⟩), v, .map (some mb)] 54 (0, 0)) ∧ OutAt B w' g v mb l ∧ OutR g w v w' v := by
  obtain ⟨a, ha, hg⟩ := h.blk
  rcases ha with rfl | rfl
  · refine (h_copyCheck_fresh g w ((blk_cell hg 0).trans rfl) (by simp [World.shape?, hg]) (blk_frozen hg 0)).mono ?_
    rintro e w' ⟨rfl, rfl⟩
    have hne : v.ownBlock ≠ some g := fun e => by
      obtain ⟨cells, hc⟩ := own_typed h.own g e
      rw [hg] at hc
      injection hc with hc
      injection hc with _ ht
      exact absurd ht (by decide)
    have hb : (w.setCell ⟨g, 0, none⟩ (.pointer (some ⟨g, 0, none⟩))).heap[g]? = some (.cells #[.pointer (some ⟨g, 0, none⟩), v, .map (some mb)] 54 (0, 0)) := by simpa using blk_set hg 0 (.pointer (some ⟨g, 0, none⟩))
    have hr : OutR g w v (w.setCell ⟨g, 0, none⟩ (.pointer (some ⟨g, 0, none⟩))) v := ⟨rfl, rfl, rfl, by simp [World.setCell], fun i hi hig _ => Below.heap_setCell _ _ _ _ hig, .inl rfl⟩
    refine ⟨rfl, hb, ⟨h.ge, Nat.le_trans h.sz hr.size, ⟨_, .inr rfl, hb⟩, own_move h.own fun k hk => ?_⟩, hr⟩
    exact Below.heap_setCell _ _ _ _ (fun e => by subst e; exact hne hk)
  · refine (h_copyCheck_used g w ((blk_cell hg 0).trans rfl)).mono ?_
    rintro e w' ⟨rfl, rfl⟩
    exact ⟨rfl, hg, h, OutR.refl _ _ _⟩

-- IMPORT Derived.Outline Derived.Defers Derived.Tactics
theorem h_out_ne {B g mb : Nat} {v : Value} {l : List UInt8} {w : World} (h : OutAt B w g v mb l) : v.ownBlock ≠ some g := fun e => by
  obtain ⟨a, _, hg⟩ := h.blk
  obtain ⟨cells, hc⟩ := own_typed h.own g e
  rw [hg] at hc
  injection hc with hc
  injection hc with _ ht
  exact absurd ht (by decide)
theorem h_bytes_append (l : List UInt8) (s : ByteArray) : byteCells (l ++ s.data.toList) = byteCells l ++ strCells s := by simp [byteCells, strCells]
set_option maxHeartbeats 1000000 in
set_option maxRecDepth 100000 in
theorem h_WriteString (B g mb : Nat) (v : Value) (l : List UInt8) (s : ByteArray) (w : World) (h : OutAt B w g v mb l) (hlen : l.length + s.size ≤ 140737488355328) :
    Calls Tryd.prog 53 #[.pointer (some ⟨g, 0, none⟩), .string s] w fun e w' => e = .returned (.tuple #[.int .i64 s.size, .nilIface]) ∧ ∃ v', OutAt B w' g v' mb (l ++ s.data.toList) ∧ OutR g w v w' v' := by
  obtain ⟨i0, hi, hz0, hz1, hz2⟩ := info_parts h_infoByte
  have HO := Aside0.mk h
  clear h
  have hs63 : s.size ≤ 9223372036854775807 := by omega
  go_enter Tryd.func53, Tryd.ntmps53
  go_wp2_with fail
  refine (h_copyCheck B g mb v l _ HO.out).mono ?_
  rintro e w1 ⟨rfl, hg1, h1, r1⟩
  have hne := h_out_ne h1
  have c1 : w1.cell? ⟨g, 1, none⟩ = some v := (blk_cell hg1 1).trans rfl
  have HG1 := Aside0.mk hg1
  have H1 := Aside0.mk h1
  have R1 := Aside0.mk r1
  have NE := Aside0.mk hne
  clear hg1 h1 r1 hne
  have hn : (byteCells l).length = l.length := Go.Lib.byteCells_length l
  go_wp2_with (at_builtin; refine h_wp_append_str rfl _ _ 43 9 rfl B 5 i0 Tryd.underlying43 Tryd.underlying9 hi hz0 hz1 hz2 _ _ _ rfl H1.out.own s rfl ?c3 ?c4 ?_)
  case c3 => exact hlen
  case c4 => exact H1.out.sz
  intro v' w2 hown' hgrow hloc
  have hb2 : w2.heap[g]? = some (.cells #[.pointer (some ⟨g, 0, none⟩), v, .map (some mb)] 54 (0, 0)) := (hgrow.block g (blk_lt HG1.out) (fun e => NE.out e.symm)).trans HG1.out
  have d1 : w2.cell? ⟨g, 1, none⟩ = some v := (blk_cell hb2 1).trans rfl
  have f1 := blk_frozen hb2 1
  obtain ⟨ao, cp, rfl⟩ := own_slice hown'
  have HB2 := Aside0.mk hb2
  have HOWN := Aside0.mk hown'
  have HGR := Aside0.mk hgrow
  have HLOC := Aside0.mk hloc
  clear hb2 hown' hgrow hloc
  go_wp2_with fail
  go_ret2
  have hb3 : (w2.setCell ⟨g, 1, none⟩ (.slice ao (l.length + s.size) cp)).heap[g]? = some (.cells #[.pointer (some ⟨g, 0, none⟩), .slice ao (l.length + s.size) cp, .map (some mb)] 54 (0, 0)) := by simpa using blk_set HB2.out 1 (.slice ao (l.length + s.size) cp)
  have hg1 := blk_lt HG1.out
  have hne' : (Value.slice ao (l.length + s.size) cp).ownBlock ≠ some g := by
    rcases HLOC.out with e | e
    · rw [e]; exact NE.out
    · intro e2; have := e g e2; omega
  have r3 : OutR g w1 v (w2.setCell ⟨g, 1, none⟩ (.slice ao (l.length + s.size) cp)) (.slice ao (l.length + s.size) cp) :=
    ⟨HGR.out.os, HGR.out.tape, HGR.out.output, by have := HGR.out.size; simp [World.setCell]; omega, fun i hi hig hv => by rw [Below.heap_setCell _ _ _ _ hig]; exact HGR.out.block i hi (fun e => hv e.symm), HLOC.out⟩
  refine ⟨rfl, _, ⟨H1.out.ge, Nat.le_trans H1.out.sz r3.size, ⟨_, .inr rfl, hb3⟩, ?_⟩, R1.out.trans r3⟩
  rw [h_bytes_append, List.length_append, Array.length_toList]
  exact own_move HOWN.out fun k hk => Below.heap_setCell _ _ _ _ (fun e => by subst e; exact hne' hk)
theorem h_rdOf (xs : List ByteArray) (i : Nat) (h : i < xs.length) : rdOf ByteArray.empty xs (i : Int) = xs[i] := by
  simp [rdOf, List.getD_eq_getElem?_getD, List.getElem?_eq_getElem h]
theorem h_take_flat (xs : List ByteArray) (i : Nat) (h : i < xs.length) : ((xs.take (i + 1)).map (·.data.toList)).flatten = ((xs.take i).map (·.data.toList)).flatten ++ (rdOf ByteArray.empty xs (i : Int)).data.toList := by
  rw [List.take_succ_eq_append_getElem h, h_rdOf xs i h]
  simp only [List.map_append, List.flatten_append, List.map_cons, List.map_nil, List.flatten_cons, List.flatten_nil, List.append_nil]
theorem h_add_block (a : Addr) (n : Nat) : (a.add n).block = a.block := by unfold Addr.add; split <;> rfl
theorem h_sum_take (xs : List ByteArray) (i : Nat) (h : i < xs.length) : ((xs.take i).map (List.length ∘ (·.data.toList))).sum + (rdOf ByteArray.empty xs (i : Int)).size ≤ (xs.map (·.size)).sum := by
  rw [h_rdOf xs i h]
  induction xs generalizing i with
  | nil => simp at h
  | cons x xs ih =>
    cases i with
    | zero => simp
    | succ i =>
      have := ih i (by simpa using h)
      simp only [List.take_succ_cons, List.map_cons, List.sum_cons, List.getElem_cons_succ, Function.comp] at this ⊢
      have e : x.data.toList.length = x.size := by simp
      omega
theorem Kd.C_len_le {α : Type} {d : Kd α} {w : World} {A : Option Addr} {n : Nat} {xs : List α} (h : d.C w A n xs) : n ≤ 9223372036854775807 := h.2.1
set_option maxHeartbeats 1000000 in
set_option maxRecDepth 100000 in
/-- put: the strings of a list of its own, which came in, are written. -/
theorem h_put (B g mb : Nat) (v : Value) (l : List UInt8) (A : Option Addr) (c : Nat) (xs : List ByteArray) (w : World) (h : OutAt B w g v mb l) (hr : Kd.C Kd.string w A xs.length xs)
    (hx : ∀ ad, A = some ad → ad.block ≠ g ∧ v.ownBlock ≠ some ad.block) (hlen : l.length + (xs.map (·.size)).sum ≤ 140737488355328) :
    Calls Tryd.prog 32 #[.pointer (some ⟨g, 0, none⟩), .slice A xs.length c] w fun e w' => e = .returned (.tuple #[]) ∧ ∃ v', OutAt B w' g v' mb (l ++ (xs.map (·.data.toList)).flatten) ∧ OutR g w v w' v' := by
  have HO := Aside0.mk h
  have HR := Aside0.mk hr
  have HX := Aside0.mk hx
  have HL := Aside0.mk hlen
  clear h hr hx hlen
  go_enter Tryd.func32, Tryd.ntmps32
  go_wp2_with fail
  go_loopw [8] (fun v8 w' => ∃ i : Nat, i ≤ xs.length ∧ v8 = .int .i64 i ∧ Aside0 (∃ v', OutAt B w' g v' mb (l ++ ((xs.take i).map (·.data.toList)).flatten) ∧ OutR g w v w' v')) (fun v8 _ => xs.length - (intOf v8).toNat)
  case atStart => exact ⟨0, Nat.zero_le _, rfl, ⟨v, by simpa using HO.out, OutR.refl _ _ _⟩⟩
  case round =>
    obtain ⟨i, hi, rfl, HP⟩ := hrel
    have hm := Kd.C_len_le HR.out
    by_cases hlt : i < xs.length
    · obtain ⟨ad, e, hc⟩ := Kd.at_string HR.out (i : Int) (by omega) (by omega)
      cases e
      obtain ⟨v1, h1, r1⟩ := HP.out
      rw [Int.toNat_natCast] at hc
      have hx := HX.out ad rfl
      rw [← h_add_block ad i] at hx
      have hb := World.block_lt_of_cell? w _ hc
      have hc1 := (World.cell?_of_block (r1.keep _ hb hx.1 hx.2)).trans hc
      have hlen1 : (l ++ ((xs.take i).map (·.data.toList)).flatten).length + (rdOf ByteArray.empty xs i).size ≤ 140737488355328 := by
        have := HL.out
        have := h_sum_take xs i hlt
        simp only [List.length_append, List.length_flatten, List.map_map]
        omega
      have H1 := Aside0.mk h1
      have R1 := Aside0.mk r1
      have HL1 := Aside0.mk hlen1
      clear h1 r1 hx hb hc hlen1 HP
      have i0 : (0 : Int) ≤ (i : Int) := by omega
      have i1 : (i : Int) < (xs.length : Int) := by omega
      go_wp2_with (go_at_call 53; refine (h_WriteString B g mb v1 _ _ _ H1.out HL1.out).mono ?_; rintro e w' ⟨rfl, hq⟩; have HQ := Aside0.mk hq; clear hq)
      go_roundw
      case rel =>
        obtain ⟨v2, h2, r2⟩ := HQ.out
        refine ⟨i + 1, hlt, by go_num, ⟨v2, ?_, R1.out.trans r2⟩⟩
        rw [h_take_flat xs i hlt, ← List.append_assoc]
        exact h2
      case measure => simp [intOf]; omega
    · have : i = xs.length := by omega
      subst this
      go_wp2_with fail
      go_end0
      obtain ⟨v2, h2, r2⟩ := HP.out
      exact ⟨rfl, v2, by rw [List.take_length] at h2; exact h2, r2⟩
set_option maxHeartbeats 1000000 in
set_option maxRecDepth 100000 in
/-- put, deferred. -/
theorem h_putD (B g mb : Nat) (v : Value) (l : List UInt8) (A : Option Addr) (c : Nat) (xs : List ByteArray) (u : FrameMode) (w : World) (h : OutAt B w g v mb l) (hr : Kd.C Kd.string w A xs.length xs)
    (hx : ∀ ad, A = some ad → ad.block ≠ g ∧ v.ownBlock ≠ some ad.block) (hlen : l.length + (xs.map (·.size)).sum ≤ 140737488355328) :
    CallsD Tryd.prog 32 #[.pointer (some ⟨g, 0, none⟩), .slice A xs.length c] u w fun e u' w' => u' = u ∧ e = .returned (.tuple #[]) ∧ ∃ v', OutAt B w' g v' mb (l ++ (xs.map (·.data.toList)).flatten) ∧ OutR g w v w' v' := by
  have HO := Aside0.mk h
  have HR := Aside0.mk hr
  have HX := Aside0.mk hx
  have HL := Aside0.mk hlen
  clear h hr hx hlen
  go_enter_d Tryd.func32, Tryd.ntmps32
  go_wp2_with fail
  go_loopw [8] (fun v8 w' => ∃ i : Nat, i ≤ xs.length ∧ v8 = .int .i64 i ∧ Aside0 (∃ v', OutAt B w' g v' mb (l ++ ((xs.take i).map (·.data.toList)).flatten) ∧ OutR g w v w' v')) (fun v8 _ => xs.length - (intOf v8).toNat)
  case atStart => exact ⟨0, Nat.zero_le _, rfl, ⟨v, by simpa using HO.out, OutR.refl _ _ _⟩⟩
  case round =>
    obtain ⟨i, hi, rfl, HP⟩ := hrel
    have hm := Kd.C_len_le HR.out
    by_cases hlt : i < xs.length
    · obtain ⟨ad, e, hc⟩ := Kd.at_string HR.out (i : Int) (by omega) (by omega)
      cases e
      obtain ⟨v1, h1, r1⟩ := HP.out
      rw [Int.toNat_natCast] at hc
      have hx := HX.out ad rfl
      rw [← h_add_block ad i] at hx
      have hb := World.block_lt_of_cell? w _ hc
      have hc1 := (World.cell?_of_block (r1.keep _ hb hx.1 hx.2)).trans hc
      have hlen1 : (l ++ ((xs.take i).map (·.data.toList)).flatten).length + (rdOf ByteArray.empty xs i).size ≤ 140737488355328 := by
        have := HL.out
        have := h_sum_take xs i hlt
        simp only [List.length_append, List.length_flatten, List.map_map]
        omega
      have H1 := Aside0.mk h1
      have R1 := Aside0.mk r1
      have HL1 := Aside0.mk hlen1
      clear h1 r1 hx hb hc hlen1 HP
      have i0 : (0 : Int) ≤ (i : Int) := by omega
      have i1 : (i : Int) < (xs.length : Int) := by omega
      go_wp2_with (go_at_call 53; refine (h_WriteString B g mb v1 _ _ _ H1.out HL1.out).mono ?_; rintro e w' ⟨rfl, hq⟩; have HQ := Aside0.mk hq; clear hq)
      go_roundw
      case rel =>
        obtain ⟨v2, h2, r2⟩ := HQ.out
        refine ⟨i + 1, hlt, by go_num, ⟨v2, ?_, R1.out.trans r2⟩⟩
        rw [h_take_flat xs i hlt, ← List.append_assoc]
        exact h2
      case measure => simp [intOf]; omega
    · have : i = xs.length := by omega
      subst this
      go_wp2_with fail
      go_end0
      obtain ⟨v2, h2, r2⟩ := HP.out
      exact ⟨rfl, v2, by rw [List.take_length] at h2; exact h2, r2⟩

-- IMPORT Derived.Outline
theorem h_reads_new (W : World) (xs : List ByteArray) (t : TypeId) (hx : xs.length ≤ 9223372036854775807) : Kd.C Kd.string (W.alloc (.cells (xs.map Value.string).toArray t)) (some ⟨W.heap.size, 0, none⟩) xs.length xs := by
  refine Kd.C_of_reads (d := ByteArray.empty) (h1 := fun _ => rfl) ⟨rfl, hx, fun _ => ⟨_, rfl, fun j hj => ?_⟩⟩
  rw [add_plain]
  rw [blk_cell (blk_new W _) j]
  simp [List.getD_eq_getElem?_getD, List.getElem?_eq_getElem hj]
theorem h_sum_flat (xs : List ByteArray) : (xs.map (·.size)).sum = ((xs.map (·.data.toList)).flatten).length := by
  induction xs with
  | nil => rfl
  | cons x xs ih => simp [ih]
theorem h_put_new (B g mb : Nat) (v : Value) (l : List UInt8) (xs : List ByteArray) (cs : Array Value) (n : Nat) (W : World) (h : OutAt B W g v mb l) (hn : n = xs.length) (hcs : cs = (xs.map Value.string).toArray) (hlen : (l ++ (xs.map (·.data.toList)).flatten).length ≤ 140737488355328) (hx : xs.length ≤ 1000) :
    Calls Tryd.prog 32 #[.pointer (some ⟨g, 0, none⟩), .slice (some ⟨W.heap.size, 0, none⟩) n n] (W.alloc (.cells cs 9)) fun e w' => e = .returned (.tuple #[]) ∧ ∃ v', OutAt B w' g v' mb (l ++ (xs.map (·.data.toList)).flatten) ∧ OutR g W v w' v' := by
  subst hn hcs
  have hb : Below W.heap.size W (W.alloc (.cells (xs.map Value.string).toArray 9)) := below_alloc (Below.refl _ _) _
  refine (h_put B g mb v l _ _ xs _ (h.below hb) (h_reads_new W xs _ (by omega)) ?_ (by rw [h_sum_flat xs]; simpa using hlen)).mono ?_
  · intro ad e
    injection e with e
    subst e
    obtain ⟨a, _, hg⟩ := h.blk
    refine ⟨fun e => ?_, fun e => ?_⟩
    · have := blk_lt hg; simp only at e; omega
    · have := own_lt h.own _ e; simp only at this; omega
  · rintro e w' ⟨rfl, v', h1, r1⟩
    exact ⟨rfl, v', h1, (OutR.of_below hb).trans r1⟩

-- IMPORT Derived.Outline Derived.Defers Derived.Deep.RegionHeld3 Derived.Deep.RegionWith Derived.StillTailTactics
abbrev toL (s : ByteArray) : List UInt8 := s.data.toList
def wordOf (k : Int) : ByteArray := if k = 7 then ⟨#[109, 97, 120]⟩ else if k = 8 then ⟨#[109, 105, 110]⟩ else if k = 9 then ⟨#[99, 97, 115, 101]⟩ else if k = 11 then ⟨#[108, 101, 115, 115]⟩ else if k = 12 then ⟨#[101, 113, 117, 97, 108]⟩ else if k = 13 then ⟨#[97, 110, 100]⟩ else if k = 14 then ⟨#[111, 114]⟩ else if k = 15 then ⟨#[110, 111, 116]⟩ else ⟨#[]⟩
/-- The words lie in the map block mb. -/
structure WordsOK (mb : Nat) (om : Obj) : Prop where
  map : ∃ es c, om = .map es c
  look : ∀ (W : World) (k : Int), W.heap[mb]? = some om → 0 ≤ k → k < 256 → (Instr.lookup 48 (.map (some mb)) (.int .u8 k) false).run Tryd.prog W = .ok (.string (wordOf k)) W
def signOf (k : Int) : ByteArray := if k = 4 then ⟨#[32, 43, 32]⟩ else if k = 5 then ⟨#[32, 45, 32]⟩ else ⟨#[32, 42, 32]⟩
def ownOf (k : Int) : Int := if k = 6 then 1 else 0
def secondOf (k : Int) : Int := if k = 6 then 2 else 1
mutual
def printer_expr.l0 : Nat → List S25 → Int → Option (List UInt8)
  | 0, _, _ => none
  | k + 1, x, i => if i < (x.length : Int) then (printer_expr.f k (rd_T25 x i).f0 (rd_T25 x i).f1 (rd_T25 x i).f2 (rd_T25 x i).f3 (rd_T25 x i).f4 0).bind fun t => (printer_expr.l0 k x (i + 1)).bind fun r => some ((if i > 0 then [44, 32] else []) ++ (t ++ r)) else some []
def printer_expr.f : Nat → Int → ByteArray → ByteArray → Int → List S25 → Int → Option (List UInt8)
  | 0, _, _, _, _, _, _ => none
  | k + 1, a0, a1, a2, a3, l4, least => if 0 ≤ a0 ∧ a0 < 256 then
      (if 4 ≤ a0 ∧ a0 ≤ 6 then (if 2 ≤ l4.length then (printer_expr.f k (rd_T25 l4 0).f0 (rd_T25 l4 0).f1 (rd_T25 l4 0).f2 (rd_T25 l4 0).f3 (rd_T25 l4 0).f4 (ownOf a0)).bind fun s =>
          (printer_expr.f k (rd_T25 l4 1).f0 (rd_T25 l4 1).f1 (rd_T25 l4 1).f2 (rd_T25 l4 1).f3 (rd_T25 l4 1).f4 (secondOf a0)).bind fun t =>
          some (if ownOf a0 < least then [40] ++ (s ++ (toL (signOf a0) ++ t)) ++ [41] else s ++ (toL (signOf a0) ++ t)) else none)
      else if 2 < least then none
      else if a0 = 1 then some (toL a1)
      else if a0 = 2 then (printer_name.f k a2).bind fun n => (printer_day.f k a3).bind fun d => some (toL n ++ ([64] ++ toL d))
      else if a0 = 3 then (printer_name.f k a2).bind fun n => some (toL n ++ [64, 110, 111, 119])
      else (printer_expr.l0 k l4 0).bind fun t => some (toL (wordOf a0) ++ ([40] ++ (t ++ [41])))) else none
end
def ExprSaid (k : Nat) : Prop := ∀ (a0 : Int) (a1 a2 : ByteArray) (a3 : Int) (A4 : Option Addr) (c4 : Nat) (l4 : List S25) (least : Int) (t : List UInt8) (w0 w : World) (g mb : Nat) (v : Value) (om : Obj) (l : List UInt8)
    (hB : Below w0.heap.size w0 w) (h : OutAt w0.heap.size w g v mb l) (hm : w.heap[mb]? = some om) (hw : WordsOK mb om) (hr : Kd.C k25 w0 A4 l4.length l4) (hc : l4.length ≤ c4) (hf : printer_expr.f k a0 a1 a2 a3 l4 least = some t) (hlen : l.length + t.length ≤ 140737488355328),
    Calls Tryd.prog 23 #[.pointer (some ⟨g, 0, none⟩), .agg #[.int .u8 a0, .string a1, .string a2, .int .i64 a3, .slice A4 l4.length c4], .int .i64 least] w fun e w' => e = .returned (.tuple #[]) ∧ ∃ v', OutAt w0.heap.size w' g v' mb (l ++ t) ∧ OutR g w v w' v'
/-- A block of a map stays. -/
theorem h_map_keep {B g mb : Nat} {w w' : World} {v v' : Value} {l : List UInt8} {om : Obj} (h : OutAt B w g v mb l) (hr : OutR g w v w' v') (hm : w.heap[mb]? = some om) (hw : WordsOK mb om) : w'.heap[mb]? = some om := by
  obtain ⟨es, c, rfl⟩ := hw.map
  refine hr.blk hm (fun e => ?_) (fun e => ?_)
  · obtain ⟨a, _, hg⟩ := h.blk
    subst e; rw [hg] at hm; cases hm
  · obtain ⟨cells, hc⟩ := own_typed h.own _ e
    rw [hc] at hm; cases hm
theorem h_expr_end {tmps : Array Value} {w : World} {R : Ending → World → Prop} (h : R (.returned (.tuple #[])) w) : bodyPostD Tryd.prog Tryd.f23 R Exit.normal { tmps := tmps, defers := [] } w :=
  ⟨.tuple #[], by simp [results, Tryd.results23], h⟩
set_option maxHeartbeats 4000000 in
set_option maxRecDepth 100000 in
theorem h_expr_const (a1 a2 : ByteArray) (a3 : Int) (A4 : Option Addr) (c4 : Nat) (l4 : List S25) (least : Int) (w : World) (B g mb : Nat) (v : Value) (l : List UInt8)
    (h : OutAt B w g v mb l) (hls : ¬ 2 < least) (hlen : l.length + a1.size ≤ 140737488355328) :
    Calls Tryd.prog 23 #[.pointer (some ⟨g, 0, none⟩), .agg #[.int .u8 1, .string a1, .string a2, .int .i64 a3, .slice A4 l4.length c4], .int .i64 least] w fun e w' => e = .returned (.tuple #[]) ∧ ∃ v', OutAt B w' g v' mb (l ++ toL a1) ∧ OutR g w v w' v' := by
  have HO := Aside0.mk h
  have HL := Aside0.mk hlen
  have cls : decide (2 < least) = false := decide_eq_false hls
  have hop : Aside0 (printer_operator.f 1 = some (⟨#[]⟩, 2, 2)) := ⟨rfl⟩
  have HB := Aside0.mk (below_alloc (Below.refl w.heap.size w) (.cells #[.int .u8 1, .string a1, .string a2, .int .i64 a3, .slice A4 l4.length c4] 25))
  have K0 := Aside0.mk (blk_new w (.cells #[.int .u8 1, .string a1, .string a2, .int .i64 a3, .slice A4 l4.length c4] 25))
  clear h hlen hls
  go_enter_defers Tryd.func23, Tryd.ntmps23
  go_wp2_with (first
    | (go_at_call 40; refine (printer_operator.calls _ _ _ _ _ hop.out).mono ?_; rintro e w1 ⟨rfl, hd⟩; have B1 := Aside0.mk (below_step HB.out hd.below); have K1 := Aside0.mk (blk_below K0.out hd.below); clear hd; obtain ⟨x0, x1, x2, x3, x4⟩ := h_box5 K1.out))
  refine (h_put_new B g mb v l [a1] _ 1 _ (HO.out.below B1.out) rfl rfl (by simpa using HL.out) (by simp)).mono ?_
  rintro e w2 ⟨rfl, hq⟩
  have HQ := Aside0.mk hq
  clear hq
  go_wp2_with fail
  obtain ⟨v2, h2, r2⟩ := HQ.out
  exact h_expr_end ⟨rfl, v2, by simpa using h2, (OutR.of_below B1.out).trans r2⟩
set_option maxHeartbeats 4000000 in
set_option maxRecDepth 100000 in
theorem h_expr_now (k : Nat) (a1 a2 : ByteArray) (a3 : Int) (A4 : Option Addr) (c4 : Nat) (l4 : List S25) (least : Int) (n : ByteArray) (w : World) (B g mb : Nat) (v : Value) (l : List UInt8)
    (h : OutAt B w g v mb l) (hls : ¬ 2 < least) (hn : printer_name.f k a2 = some n) (hlen : l.length + (toL n ++ [64, 110, 111, 119]).length ≤ 140737488355328) :
    Calls Tryd.prog 23 #[.pointer (some ⟨g, 0, none⟩), .agg #[.int .u8 3, .string a1, .string a2, .int .i64 a3, .slice A4 l4.length c4], .int .i64 least] w fun e w' => e = .returned (.tuple #[]) ∧ ∃ v', OutAt B w' g v' mb (l ++ (toL n ++ [64, 110, 111, 119])) ∧ OutR g w v w' v' := by
  have HO := Aside0.mk h
  have HL := Aside0.mk hlen
  have HN := Aside0.mk hn
  have cls : decide (2 < least) = false := decide_eq_false hls
  have hop : Aside0 (printer_operator.f 3 = some (⟨#[]⟩, 2, 2)) := ⟨rfl⟩
  have HB := Aside0.mk (below_alloc (Below.refl w.heap.size w) (.cells #[.int .u8 3, .string a1, .string a2, .int .i64 a3, .slice A4 l4.length c4] 25))
  have K0 := Aside0.mk (blk_new w (.cells #[.int .u8 3, .string a1, .string a2, .int .i64 a3, .slice A4 l4.length c4] 25))
  clear h hlen hls hn
  go_enter_defers Tryd.func23, Tryd.ntmps23
  go_wp2_with (first
    | (go_at_call 40; refine (printer_operator.calls _ _ _ _ _ hop.out).mono ?_; rintro e w1 ⟨rfl, hd⟩; have B1 := Aside0.mk (below_step HB.out hd.below); have K1 := Aside0.mk (blk_below K0.out hd.below); clear hd; obtain ⟨x0, x1, x2, x3, x4⟩ := h_box5 K1.out)
    | (go_at_call 25; refine (printer_name.calls k _ _ _ HN.out).mono ?_; rintro e w2 ⟨rfl, hb⟩; have B2 := Aside0.mk (below_step B1.out hb); clear hb))
  refine (h_put_new B g mb v l [n, ⟨#[64, 110, 111, 119]⟩] _ 2 _ (HO.out.below B2.out) rfl rfl (by simpa using HL.out) (by simp)).mono ?_
  rintro e w3 ⟨rfl, hq⟩
  have HQ := Aside0.mk hq
  clear hq
  go_wp2_with fail
  obtain ⟨v2, h2, r2⟩ := HQ.out
  exact h_expr_end ⟨rfl, v2, by simpa using h2, (OutR.of_below B2.out).trans r2⟩
set_option maxHeartbeats 4000000 in
set_option maxRecDepth 100000 in
theorem h_expr_fix (k : Nat) (a1 a2 : ByteArray) (a3 : Int) (A4 : Option Addr) (c4 : Nat) (l4 : List S25) (least : Int) (n d : ByteArray) (w : World) (B g mb : Nat) (v : Value) (l : List UInt8)
    (h : OutAt B w g v mb l) (hls : ¬ 2 < least) (hn : printer_name.f k a2 = some n) (hd : printer_day.f k a3 = some d) (hlen : l.length + (toL n ++ ([64] ++ toL d)).length ≤ 140737488355328) :
    Calls Tryd.prog 23 #[.pointer (some ⟨g, 0, none⟩), .agg #[.int .u8 2, .string a1, .string a2, .int .i64 a3, .slice A4 l4.length c4], .int .i64 least] w fun e w' => e = .returned (.tuple #[]) ∧ ∃ v', OutAt B w' g v' mb (l ++ (toL n ++ ([64] ++ toL d))) ∧ OutR g w v w' v' := by
  have HO := Aside0.mk h
  have HL := Aside0.mk hlen
  have HN := Aside0.mk hn
  have HD := Aside0.mk hd
  have cls : decide (2 < least) = false := decide_eq_false hls
  have hop : Aside0 (printer_operator.f 2 = some (⟨#[]⟩, 2, 2)) := ⟨rfl⟩
  have HB := Aside0.mk (below_alloc (Below.refl w.heap.size w) (.cells #[.int .u8 2, .string a1, .string a2, .int .i64 a3, .slice A4 l4.length c4] 25))
  have K0 := Aside0.mk (blk_new w (.cells #[.int .u8 2, .string a1, .string a2, .int .i64 a3, .slice A4 l4.length c4] 25))
  clear h hlen hls hn hd
  go_enter_defers Tryd.func23, Tryd.ntmps23
  go_wp2_with (first
    | (go_at_call 40; refine (printer_operator.calls _ _ _ _ _ hop.out).mono ?_; rintro e w1 ⟨rfl, hd⟩; have B1 := Aside0.mk (below_step HB.out hd.below); have K1 := Aside0.mk (blk_below K0.out hd.below); clear hd; obtain ⟨x0, x1, x2, x3, x4⟩ := h_box5 K1.out))
  refine wp_region_noPanic ?_
  go_region_with (first
    | (go_at_call 25; refine (printer_name.calls k _ _ _ HN.out).mono ?_; rintro e wn ⟨rfl, hbn⟩; have x3n := pw_cell_below hbn x3; have x2n := pw_cell_below hbn x2; have x1n := Aside0.mk hbn; clear hbn)
    | (go_at_call 33; refine (printer_day.calls k _ _ _ HD.out).mono ?_; rintro e wd ⟨rfl, hbd⟩; (first | have x3d := pw_cell_below hbd x3 | have x3d := pw_cell_below hbd x3n); (first | have x2d := pw_cell_below hbd x2 | have x2d := pw_cell_below hbd x2n); have x1d := Aside0.mk hbd; clear hbd)
    | (go_at_call 32; refine (h_put_new B g mb v l [n, ⟨#[64]⟩, d] _ 3 _ (HO.out.below (below_step (below_step (below_drew1 B1.out) x1n.out) x1d.out)) rfl rfl (by simpa using HL.out) (by simp)).mono ?_; rintro e w3 ⟨rfl, hq⟩; have HQ := Aside0.mk hq; clear hq))
  all_goals
    refine NoPanic.normal ?_
    go_wp2_with fail
    obtain ⟨v2, h2, r2⟩ := HQ.out
    exact h_expr_end ⟨rfl, v2, by simpa using h2, (OutR.of_below (below_step (below_step (below_drew1 B1.out) x1n.out) x1d.out)).trans r2⟩

end Go.Proofs.YtalaekadkjhldaaDoor.Pr
