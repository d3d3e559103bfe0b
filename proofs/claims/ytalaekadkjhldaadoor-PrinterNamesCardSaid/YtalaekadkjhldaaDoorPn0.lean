-- Laid by this session's program ext.py (the kit's printer with hand-proved functions put in). Not trusted: Lean checks it.
import Derived.Test.YtalaekadkjhldaaDoorProg
import Derived.Below
import Derived.Deep.Draws
import Derived.Deep.AppendLies
import Derived.Maps.AppendAt
import Derived.OwnWalk
import Derived.Laws.BytesArg
import Derived.Laws.MakeOwn
import Derived.Laws.OwnMore
import Derived.Deep.OwnRows
import Derived.Tactics
import Derived.Lib.ConvBytes
import Derived.Laws.Slices
import Derived.WalkKit
import Derived.KernelRfl
import Derived.RowKit3
import Derived.Deep.LoopGhost
import Derived.Deep.QuietTactic
import Derived.BigQuiet
import Derived.WideLaws
import Derived.Deep.DeepCutAuto
import Derived.Deep.CutBlock
import Derived.Deep.RegionHeld3
import Derived.Laws.Rows
import Derived.Lib.AppendStr
import Derived.ArgAppend
import Derived.Laws.IdiomCopy
import Derived.OrdersHeld
import Derived.Laws.BitsLemmas
import Derived.RowKit
import Derived.Test.YtalaekadkjhldaaDoorShelf
import Derived.Outline
import Derived.Test.YtalaekadkjhldaaDoorWWords
import Derived.Test.YtalaekadkjhldaaDoorWLast
import Derived.Test.YtalaekadkjhldaaDoorWTab
import Derived.Test.YtalaekadkjhldaaDoorWQPut
import Derived.Test.YtalaekadkjhldaaDoorWApart
import Derived.Test.YtalaekadkjhldaaDoorWArr
import Derived.Test.YtalaekadkjhldaaDoorWZeros
import Derived.Test.YtalaekadkjhldaaDoorWFoot
import Derived.Test.YtalaekadkjhldaaDoorWKept
import Derived.Test.YtalaekadkjhldaaDoorWShare
import Derived.Test.YtalaekadkjhldaaDoorWN
import Derived.Test.YtalaekadkjhldaaDoorWFootNe
import Derived.Test.YtalaekadkjhldaaDoorWAt
import Derived.Test.YtalaekadkjhldaaDoorWEqStruct
import Derived.Test.YtalaekadkjhldaaDoorWRepsOne
import Derived.Test.YtalaekadkjhldaaDoorWGuard
import Derived.Test.YtalaekadkjhldaaDoorWNEv
import Derived.Test.YtalaekadkjhldaaDoorWMore
namespace Go.Proofs.YtalaekadkjhldaaDoor.Pr
open Go.RowKit Go.Proofs.YtalaekadkjhldaaDoorW.PrintWords Go.Proofs.YtalaekadkjhldaaDoorW.PrintLast Go.Proofs.YtalaekadkjhldaaDoorW.PrintMore
attribute [local go_sem] max2_int min2_int max_two min_two max_three min_three max_four min_four   -- for this text's walks alone
set_option linter.unusedVariables false
set_option linter.unusedSimpArgs false



def errW : Option Int → Value
  | none => .nilIface
  | some c => .iface 0 (.int .i64 c)
theorem errW_none : errW none = .nilIface := rfl
theorem errW_some (c : Int) : errW (some c) = .iface 0 (.int .i64 c) := rfl

theorem info5 : (Tryd.prog.info? 5).map (fun i => (i.zero, i.size, i.bytes)) = some (some (.int .u8 0), 1, 1) := by kernel_rfl
theorem info9 : (Tryd.prog.info? 9).map (fun i => (i.zero, i.size, i.bytes)) = some (some (.string ⟨#[]⟩), 1, 16) := by kernel_rfl
-- the values' own types
/-! #### struct type 25, nested in itself -/
structure S25 where
  f0 : Int
  f1 : ByteArray
  f2 : ByteArray
  f3 : Int
  f4 : (List S25)
def z25 : S25 := ⟨(0 : Int), (⟨#[]⟩ : ByteArray), (⟨#[]⟩ : ByteArray), (0 : Int), ([] : List S25)⟩
def F25 (d : Kd S25) : Kd S25 := Kd.iso (Kd.pair (Kd.int .u8) (Kd.pair Kd.string (Kd.pair Kd.string (Kd.pair (Kd.int .i64) (Kd.slice 25 d))))) (fun x : S25 => (x.f0, x.f1, x.f2, x.f3, x.f4))
theorem mono25 : Kd.Mono F25 := Kd.mono_iso _ (Kd.mono_pair (Kd.mono_const _) (Kd.mono_pair (Kd.mono_const _) (Kd.mono_pair (Kd.mono_const _) (Kd.mono_pair (Kd.mono_const _) (Kd.mono_slice 25 Kd.mono_id)))))
theorem sub25 : Kd.Sub F25 [25] := Kd.sub_iso _ (Kd.sub_pair (Kd.sub_const _ (by decide)) (Kd.sub_pair (Kd.sub_const _ (by decide)) (Kd.sub_pair (Kd.sub_const _ (by decide)) (Kd.sub_pair (Kd.sub_const _ (by decide)) (Kd.sub_slice 25 (by decide) Kd.sub_id)))))
theorem sz25 : ∀ n, (Kd.upto F25 5 [25] n).sz = 5 := Kd.upto_sz (fun _ => rfl)
def k25 : Kd S25 := Kd.fix F25 5 [25] sz25 (Kd.upto_E sub25)
theorem k25_open {w : World} {x : S25} {cs : List Value} (h : k25.K w x cs) : ∃ A4 c4, cs = [.int .u8 x.f0, .string x.f1, .string x.f2, .int .i64 x.f3, .slice A4 x.f4.length c4] ∧ x.f4.length ≤ c4 ∧ k25.C w A4 x.f4.length x.f4 := by
  obtain ⟨n, h⟩ := h
  cases n with
  | zero => exact h.elim
  | succ n =>
    obtain ⟨_, _, rfl, rfl, ⟨_, _, rfl, rfl, ⟨_, _, rfl, rfl, ⟨_, _, rfl, rfl, ⟨A4, c4, rfl, l4, g4⟩⟩⟩⟩⟩ := h
    exact ⟨A4, c4, rfl, l4, Kd.fix_C g4⟩
theorem k25_openM {w : World} {base : Nat} {ok : Nat → Prop} {x : S25} {cs : List Value} (h : k25.M w base ok x cs) : ∃ v4, cs = [.int .u8 x.f0, .string x.f1, .string x.f2, .int .i64 x.f3, v4] ∧ k25.R 25 w base ok v4 x.f4 := by
  obtain ⟨n, h⟩ := h
  cases n with
  | zero => exact h.elim
  | succ n =>
    obtain ⟨_, _, rfl, rfl, ⟨_, _, rfl, rfl, ⟨_, _, rfl, rfl, ⟨_, _, rfl, rfl, ⟨v4, rfl, g4⟩⟩⟩⟩⟩ := h
    exact ⟨v4, rfl, Kd.fix_R g4⟩
theorem k25_mk (w : World) (x : S25) {A4 : Option Addr} {c4 : Nat} (l4 : x.f4.length ≤ c4) (g4 : k25.C w A4 x.f4.length x.f4) : k25.K w x [.int .u8 x.f0, .string x.f1, .string x.f2, .int .i64 x.f3, .slice A4 x.f4.length c4] := by
  obtain ⟨n4, q4⟩ := Kd.fix_C_back mono25 g4
  have r4 := Kd.upto_C_le mono25 sz25 (show n4 ≤ n4 by omega) q4
  exact ⟨n4 + 1, ⟨[.int .u8 x.f0], [.string x.f1, .string x.f2, .int .i64 x.f3, .slice A4 x.f4.length c4], rfl, rfl, ⟨[.string x.f1], [.string x.f2, .int .i64 x.f3, .slice A4 x.f4.length c4], rfl, rfl, ⟨[.string x.f2], [.int .i64 x.f3, .slice A4 x.f4.length c4], rfl, rfl, ⟨[.int .i64 x.f3], [.slice A4 x.f4.length c4], rfl, rfl, ⟨A4, c4, rfl, l4, r4⟩⟩⟩⟩⟩⟩
theorem k25_mkM (w : World) (base : Nat) (ok : Nat → Prop) (x : S25) {v4 : Value} (g4 : k25.R 25 w base ok v4 x.f4) : k25.M w base ok x [.int .u8 x.f0, .string x.f1, .string x.f2, .int .i64 x.f3, v4] := by
  obtain ⟨n4, q4⟩ := Kd.fix_R_back mono25 g4
  have r4 := Kd.upto_R_le mono25 sz25 (show n4 ≤ n4 by omega) q4
  exact ⟨n4 + 1, ⟨[.int .u8 x.f0], [.string x.f1, .string x.f2, .int .i64 x.f3, v4], rfl, rfl, ⟨[.string x.f1], [.string x.f2, .int .i64 x.f3, v4], rfl, rfl, ⟨[.string x.f2], [.int .i64 x.f3, v4], rfl, rfl, ⟨[.int .i64 x.f3], [v4], rfl, rfl, ⟨v4, rfl, r4⟩⟩⟩⟩⟩⟩
def rd_T25 (xs : List S25) (i : Int) : S25 := xs.getD i.toNat z25
theorem at_T25 {w : World} {A : Option Addr} {n : Nat} {xs : List S25} (h : Kd.C k25 w A n xs) (i : Int) (h0 : 0 ≤ i) (h1 : i < n) : ∃ ad A4 c4, A = some ad ∧ w.cell? (ad.add (i.toNat * 5)) = some (.int .u8 (rd_T25 xs i).f0) ∧ w.cell? ⟨(ad.add (i.toNat * 5)).block, (ad.add (i.toNat * 5)).off + 1, none⟩ = some (.string (rd_T25 xs i).f1) ∧ w.cell? ⟨(ad.add (i.toNat * 5)).block, (ad.add (i.toNat * 5)).off + 2, none⟩ = some (.string (rd_T25 xs i).f2) ∧ w.cell? ⟨(ad.add (i.toNat * 5)).block, (ad.add (i.toNat * 5)).off + 3, none⟩ = some (.int .i64 (rd_T25 xs i).f3) ∧ w.cell? ⟨(ad.add (i.toNat * 5)).block, (ad.add (i.toNat * 5)).off + 4, none⟩ = some (.slice A4 (rd_T25 xs i).f4.length c4) ∧ (rd_T25 xs i).f4.length ≤ c4 ∧ k25.C w A4 (rd_T25 xs i).f4.length (rd_T25 xs i).f4 := by
  obtain ⟨ad, c, e, _, hK, hc0⟩ := Kd.C_get h z25 i h0 h1
  have hc : ∀ j u, c[j]? = some u → w.cell? (ad.add (i.toNat * 5 + j)) = some u := hc0
  obtain ⟨A4, c4, rfl, l4, g4⟩ := k25_open hK
  exact ⟨ad, A4, c4, e, hc 0 _ rfl, by rw [← add_field _ _ 1 (by omega)]; exact hc 1 _ rfl, by rw [← add_field _ _ 2 (by omega)]; exact hc 2 _ rfl, by rw [← add_field _ _ 3 (by omega)]; exact hc 3 _ rfl, by rw [← add_field _ _ 4 (by omega)]; exact hc 4 _ rfl, l4, g4⟩

def rd_L4 (xs : List (List Int)) (i : Int) : (List Int) := xs.getD i.toNat ([] : List Int)
theorem at_L4 {w : World} {A : Option Addr} {n : Nat} {xs : List (List Int)} (h : Kd.C (Kd.slice 3 (Kd.int .i64)) w A n xs) (i : Int) (h0 : 0 ≤ i) (h1 : i < n) : ∃ ad A0 c0, A = some ad ∧ w.cell? (ad.add i.toNat) = some (.slice A0 (rd_L4 xs i).length c0) ∧ (rd_L4 xs i).length ≤ c0 ∧ (Kd.int .i64).C w A0 (rd_L4 xs i).length (rd_L4 xs i) := by
  obtain ⟨ad, c, e, _, hK, hc0⟩ := Kd.C_get h ([] : List Int) i h0 h1
  have hc : ∀ j u, c[j]? = some u → w.cell? (ad.add (i.toNat * 1 + j)) = some u := hc0
  obtain ⟨A0, c0, rfl, l0, g0⟩ := hK
  exact ⟨ad, A0, c0, e, by have hq := hc 0 _ rfl; rwa [Nat.mul_one, Nat.add_zero] at hq, l0, g0⟩

/-! #### struct type 29, nested in itself -/
structure S29 where
  f0 : Int
  f1 : ByteArray
  f2 : ByteArray
  f3 : ByteArray
  f4 : S25
  f5 : Int
  f6 : (List Int)
  f7 : (List S29)
def z29 : S29 := ⟨(0 : Int), (⟨#[]⟩ : ByteArray), (⟨#[]⟩ : ByteArray), (⟨#[]⟩ : ByteArray), z25, (0 : Int), ([] : List Int), ([] : List S29)⟩
def F29 (d : Kd S29) : Kd S29 := Kd.iso (Kd.pair (Kd.int .u8) (Kd.pair Kd.string (Kd.pair Kd.string (Kd.pair Kd.string (Kd.pair k25 (Kd.pair (Kd.int .i64) (Kd.pair (Kd.slice 3 (Kd.int .i64)) (Kd.slice 29 d)))))))) (fun x : S29 => (x.f0, x.f1, x.f2, x.f3, x.f4, x.f5, x.f6, x.f7))
theorem mono29 : Kd.Mono F29 := Kd.mono_iso _ (Kd.mono_pair (Kd.mono_const _) (Kd.mono_pair (Kd.mono_const _) (Kd.mono_pair (Kd.mono_const _) (Kd.mono_pair (Kd.mono_const _) (Kd.mono_pair (Kd.mono_const _) (Kd.mono_pair (Kd.mono_const _) (Kd.mono_pair (Kd.mono_const _) (Kd.mono_slice 29 Kd.mono_id))))))))
theorem sub29 : Kd.Sub F29 [3, 25, 29] := Kd.sub_iso _ (Kd.sub_pair (Kd.sub_const _ (by decide)) (Kd.sub_pair (Kd.sub_const _ (by decide)) (Kd.sub_pair (Kd.sub_const _ (by decide)) (Kd.sub_pair (Kd.sub_const _ (by decide)) (Kd.sub_pair (Kd.sub_const _ (by decide)) (Kd.sub_pair (Kd.sub_const _ (by decide)) (Kd.sub_pair (Kd.sub_const _ (by decide)) (Kd.sub_slice 29 (by decide) Kd.sub_id))))))))
theorem sz29 : ∀ n, (Kd.upto F29 12 [3, 25, 29] n).sz = 12 := Kd.upto_sz (fun _ => rfl)
def k29 : Kd S29 := Kd.fix F29 12 [3, 25, 29] sz29 (Kd.upto_E sub29)
theorem k29_open {w : World} {x : S29} {cs : List Value} (h : k29.K w x cs) : ∃ A8 c8 A10 c10 A11 c11, cs = [.int .u8 x.f0, .string x.f1, .string x.f2, .string x.f3, .int .u8 x.f4.f0, .string x.f4.f1, .string x.f4.f2, .int .i64 x.f4.f3, .slice A8 x.f4.f4.length c8, .int .i64 x.f5, .slice A10 x.f6.length c10, .slice A11 x.f7.length c11] ∧ x.f4.f4.length ≤ c8 ∧ k25.C w A8 x.f4.f4.length x.f4.f4 ∧ x.f6.length ≤ c10 ∧ (Kd.int .i64).C w A10 x.f6.length x.f6 ∧ x.f7.length ≤ c11 ∧ k29.C w A11 x.f7.length x.f7 := by
  obtain ⟨n, h⟩ := h
  cases n with
  | zero => exact h.elim
  | succ n =>
    obtain ⟨_, _, rfl, rfl, ⟨_, _, rfl, rfl, ⟨_, _, rfl, rfl, ⟨_, _, rfl, rfl, ⟨_, _, rfl, s4, ⟨_, _, rfl, rfl, ⟨_, _, rfl, ⟨A10, c10, rfl, l10, g10⟩, ⟨A11, c11, rfl, l11, g11⟩⟩⟩⟩⟩⟩⟩⟩ := h
    obtain ⟨A8, c8, rfl, l8, g8⟩ := k25_open s4
    exact ⟨A8, c8, A10, c10, A11, c11, rfl, l8, g8, l10, g10, l11, Kd.fix_C g11⟩
theorem k29_openM {w : World} {base : Nat} {ok : Nat → Prop} {x : S29} {cs : List Value} (h : k29.M w base ok x cs) : ∃ v8 v10 v11, cs = [.int .u8 x.f0, .string x.f1, .string x.f2, .string x.f3, .int .u8 x.f4.f0, .string x.f4.f1, .string x.f4.f2, .int .i64 x.f4.f3, v8, .int .i64 x.f5, v10, v11] ∧ k25.R 25 w base ok v8 x.f4.f4 ∧ (Kd.int .i64).R 3 w base ok v10 x.f6 ∧ k29.R 29 w base ok v11 x.f7 := by
  obtain ⟨n, h⟩ := h
  cases n with
  | zero => exact h.elim
  | succ n =>
    obtain ⟨_, _, rfl, rfl, ⟨_, _, rfl, rfl, ⟨_, _, rfl, rfl, ⟨_, _, rfl, rfl, ⟨_, _, rfl, s4, ⟨_, _, rfl, rfl, ⟨_, _, rfl, ⟨v10, rfl, g10⟩, ⟨v11, rfl, g11⟩⟩⟩⟩⟩⟩⟩⟩ := h
    obtain ⟨v8, rfl, g8⟩ := k25_openM s4
    exact ⟨v8, v10, v11, rfl, g8, g10, Kd.fix_R g11⟩
theorem k29_mk (w : World) (x : S29) {A8 : Option Addr} {c8 : Nat} (l8 : x.f4.f4.length ≤ c8) (g8 : k25.C w A8 x.f4.f4.length x.f4.f4) {A10 : Option Addr} {c10 : Nat} (l10 : x.f6.length ≤ c10) (g10 : (Kd.int .i64).C w A10 x.f6.length x.f6) {A11 : Option Addr} {c11 : Nat} (l11 : x.f7.length ≤ c11) (g11 : k29.C w A11 x.f7.length x.f7) : k29.K w x [.int .u8 x.f0, .string x.f1, .string x.f2, .string x.f3, .int .u8 x.f4.f0, .string x.f4.f1, .string x.f4.f2, .int .i64 x.f4.f3, .slice A8 x.f4.f4.length c8, .int .i64 x.f5, .slice A10 x.f6.length c10, .slice A11 x.f7.length c11] := by
  obtain ⟨n11, q11⟩ := Kd.fix_C_back mono29 g11
  have r11 := Kd.upto_C_le mono29 sz29 (show n11 ≤ n11 by omega) q11
  exact ⟨n11 + 1, ⟨[.int .u8 x.f0], [.string x.f1, .string x.f2, .string x.f3, .int .u8 x.f4.f0, .string x.f4.f1, .string x.f4.f2, .int .i64 x.f4.f3, .slice A8 x.f4.f4.length c8, .int .i64 x.f5, .slice A10 x.f6.length c10, .slice A11 x.f7.length c11], rfl, rfl, ⟨[.string x.f1], [.string x.f2, .string x.f3, .int .u8 x.f4.f0, .string x.f4.f1, .string x.f4.f2, .int .i64 x.f4.f3, .slice A8 x.f4.f4.length c8, .int .i64 x.f5, .slice A10 x.f6.length c10, .slice A11 x.f7.length c11], rfl, rfl, ⟨[.string x.f2], [.string x.f3, .int .u8 x.f4.f0, .string x.f4.f1, .string x.f4.f2, .int .i64 x.f4.f3, .slice A8 x.f4.f4.length c8, .int .i64 x.f5, .slice A10 x.f6.length c10, .slice A11 x.f7.length c11], rfl, rfl, ⟨[.string x.f3], [.int .u8 x.f4.f0, .string x.f4.f1, .string x.f4.f2, .int .i64 x.f4.f3, .slice A8 x.f4.f4.length c8, .int .i64 x.f5, .slice A10 x.f6.length c10, .slice A11 x.f7.length c11], rfl, rfl, ⟨[.int .u8 x.f4.f0, .string x.f4.f1, .string x.f4.f2, .int .i64 x.f4.f3, .slice A8 x.f4.f4.length c8], [.int .i64 x.f5, .slice A10 x.f6.length c10, .slice A11 x.f7.length c11], rfl, (k25_mk w x.f4 l8 g8), ⟨[.int .i64 x.f5], [.slice A10 x.f6.length c10, .slice A11 x.f7.length c11], rfl, rfl, ⟨[.slice A10 x.f6.length c10], [.slice A11 x.f7.length c11], rfl, ⟨A10, c10, rfl, l10, g10⟩, ⟨A11, c11, rfl, l11, r11⟩⟩⟩⟩⟩⟩⟩⟩⟩
theorem k29_mkM (w : World) (base : Nat) (ok : Nat → Prop) (x : S29) {v8 : Value} (g8 : k25.R 25 w base ok v8 x.f4.f4) {v10 : Value} (g10 : (Kd.int .i64).R 3 w base ok v10 x.f6) {v11 : Value} (g11 : k29.R 29 w base ok v11 x.f7) : k29.M w base ok x [.int .u8 x.f0, .string x.f1, .string x.f2, .string x.f3, .int .u8 x.f4.f0, .string x.f4.f1, .string x.f4.f2, .int .i64 x.f4.f3, v8, .int .i64 x.f5, v10, v11] := by
  obtain ⟨n11, q11⟩ := Kd.fix_R_back mono29 g11
  have r11 := Kd.upto_R_le mono29 sz29 (show n11 ≤ n11 by omega) q11
  exact ⟨n11 + 1, ⟨[.int .u8 x.f0], [.string x.f1, .string x.f2, .string x.f3, .int .u8 x.f4.f0, .string x.f4.f1, .string x.f4.f2, .int .i64 x.f4.f3, v8, .int .i64 x.f5, v10, v11], rfl, rfl, ⟨[.string x.f1], [.string x.f2, .string x.f3, .int .u8 x.f4.f0, .string x.f4.f1, .string x.f4.f2, .int .i64 x.f4.f3, v8, .int .i64 x.f5, v10, v11], rfl, rfl, ⟨[.string x.f2], [.string x.f3, .int .u8 x.f4.f0, .string x.f4.f1, .string x.f4.f2, .int .i64 x.f4.f3, v8, .int .i64 x.f5, v10, v11], rfl, rfl, ⟨[.string x.f3], [.int .u8 x.f4.f0, .string x.f4.f1, .string x.f4.f2, .int .i64 x.f4.f3, v8, .int .i64 x.f5, v10, v11], rfl, rfl, ⟨[.int .u8 x.f4.f0, .string x.f4.f1, .string x.f4.f2, .int .i64 x.f4.f3, v8], [.int .i64 x.f5, v10, v11], rfl, (k25_mkM w base ok x.f4 g8), ⟨[.int .i64 x.f5], [v10, v11], rfl, rfl, ⟨[v10], [v11], rfl, ⟨v10, rfl, g10⟩, ⟨v11, rfl, r11⟩⟩⟩⟩⟩⟩⟩⟩⟩
def rd_T29 (xs : List S29) (i : Int) : S29 := xs.getD i.toNat z29
theorem at_T29 {w : World} {A : Option Addr} {n : Nat} {xs : List S29} (h : Kd.C k29 w A n xs) (i : Int) (h0 : 0 ≤ i) (h1 : i < n) : ∃ ad A8 c8 A10 c10 A11 c11, A = some ad ∧ w.cell? (ad.add (i.toNat * 12)) = some (.int .u8 (rd_T29 xs i).f0) ∧ w.cell? ⟨(ad.add (i.toNat * 12)).block, (ad.add (i.toNat * 12)).off + 1, none⟩ = some (.string (rd_T29 xs i).f1) ∧ w.cell? ⟨(ad.add (i.toNat * 12)).block, (ad.add (i.toNat * 12)).off + 2, none⟩ = some (.string (rd_T29 xs i).f2) ∧ w.cell? ⟨(ad.add (i.toNat * 12)).block, (ad.add (i.toNat * 12)).off + 3, none⟩ = some (.string (rd_T29 xs i).f3) ∧ w.cell? ⟨(ad.add (i.toNat * 12)).block, (ad.add (i.toNat * 12)).off + 4, none⟩ = some (.int .u8 (rd_T29 xs i).f4.f0) ∧ w.cell? ⟨(ad.add (i.toNat * 12)).block, (ad.add (i.toNat * 12)).off + 5, none⟩ = some (.string (rd_T29 xs i).f4.f1) ∧ w.cell? ⟨(ad.add (i.toNat * 12)).block, (ad.add (i.toNat * 12)).off + 6, none⟩ = some (.string (rd_T29 xs i).f4.f2) ∧ w.cell? ⟨(ad.add (i.toNat * 12)).block, (ad.add (i.toNat * 12)).off + 7, none⟩ = some (.int .i64 (rd_T29 xs i).f4.f3) ∧ w.cell? ⟨(ad.add (i.toNat * 12)).block, (ad.add (i.toNat * 12)).off + 8, none⟩ = some (.slice A8 (rd_T29 xs i).f4.f4.length c8) ∧ w.cell? ⟨(ad.add (i.toNat * 12)).block, (ad.add (i.toNat * 12)).off + 9, none⟩ = some (.int .i64 (rd_T29 xs i).f5) ∧ w.cell? ⟨(ad.add (i.toNat * 12)).block, (ad.add (i.toNat * 12)).off + 10, none⟩ = some (.slice A10 (rd_T29 xs i).f6.length c10) ∧ w.cell? ⟨(ad.add (i.toNat * 12)).block, (ad.add (i.toNat * 12)).off + 11, none⟩ = some (.slice A11 (rd_T29 xs i).f7.length c11) ∧ (rd_T29 xs i).f4.f4.length ≤ c8 ∧ k25.C w A8 (rd_T29 xs i).f4.f4.length (rd_T29 xs i).f4.f4 ∧ (rd_T29 xs i).f6.length ≤ c10 ∧ (Kd.int .i64).C w A10 (rd_T29 xs i).f6.length (rd_T29 xs i).f6 ∧ (rd_T29 xs i).f7.length ≤ c11 ∧ k29.C w A11 (rd_T29 xs i).f7.length (rd_T29 xs i).f7 := by
  obtain ⟨ad, c, e, _, hK, hc0⟩ := Kd.C_get h z29 i h0 h1
  have hc : ∀ j u, c[j]? = some u → w.cell? (ad.add (i.toNat * 12 + j)) = some u := hc0
  obtain ⟨A8, c8, A10, c10, A11, c11, rfl, l8, g8, l10, g10, l11, g11⟩ := k29_open hK
  exact ⟨ad, A8, c8, A10, c10, A11, c11, e, hc 0 _ rfl, by rw [← add_field _ _ 1 (by omega)]; exact hc 1 _ rfl, by rw [← add_field _ _ 2 (by omega)]; exact hc 2 _ rfl, by rw [← add_field _ _ 3 (by omega)]; exact hc 3 _ rfl, by rw [← add_field _ _ 4 (by omega)]; exact hc 4 _ rfl, by rw [← add_field _ _ 5 (by omega)]; exact hc 5 _ rfl, by rw [← add_field _ _ 6 (by omega)]; exact hc 6 _ rfl, by rw [← add_field _ _ 7 (by omega)]; exact hc 7 _ rfl, by rw [← add_field _ _ 8 (by omega)]; exact hc 8 _ rfl, by rw [← add_field _ _ 9 (by omega)]; exact hc 9 _ rfl, by rw [← add_field _ _ 10 (by omega)]; exact hc 10 _ rfl, by rw [← add_field _ _ 11 (by omega)]; exact hc 11 _ rfl, l8, g8, l10, g10, l11, g11⟩

end Go.Proofs.YtalaekadkjhldaaDoor.Pr
