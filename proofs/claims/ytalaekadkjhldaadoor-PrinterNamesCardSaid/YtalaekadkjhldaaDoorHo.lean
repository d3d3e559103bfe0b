/- A part of the proof of the statement PrinterNames (the printer's examples, further texts and errors): contracts of functions of the program, proved by walking their text. -/
import Derived.Test.YtalaekadkjhldaaDoorPn0
import Derived.Test.YtalaekadkjhldaaDoorPn1
import Derived.Test.YtalaekadkjhldaaDoorPn2
import Derived.Test.YtalaekadkjhldaaDoorPn3
import Derived.Test.YtalaekadkjhldaaDoorPn4
import Derived.Test.YtalaekadkjhldaaDoorPn5
import Derived.Test.YtalaekadkjhldaaDoorPn6
import Derived.Outline
import Derived.Deep.RegionHeld3
import Derived.Deep.LoopGhost
import Derived.Deep.Cut
import Derived.Test.YtalaekadkjhldaaDoorShelf
import Derived.Test.YtalaekadkjhldaaDoorHa
import Derived.Test.YtalaekadkjhldaaDoorHb
import Derived.Test.YtalaekadkjhldaaDoorHc
import Derived.Test.YtalaekadkjhldaaDoorHd
import Derived.Test.YtalaekadkjhldaaDoorHe
import Derived.Test.YtalaekadkjhldaaDoorHf
import Derived.Test.YtalaekadkjhldaaDoorHg
import Derived.Test.YtalaekadkjhldaaDoorHh
import Derived.Test.YtalaekadkjhldaaDoorHi
import Derived.Test.YtalaekadkjhldaaDoorHj
import Derived.Test.YtalaekadkjhldaaDoorHk
import Derived.Test.YtalaekadkjhldaaDoorHl
import Derived.Test.YtalaekadkjhldaaDoorHm
import Derived.Test.YtalaekadkjhldaaDoorHn
namespace Go.Proofs.YtalaekadkjhldaaDoor.Pr
open Go.RowKit Go.Proofs.YtalaekadkjhldaaDoorW.PrintWords Go.Proofs.YtalaekadkjhldaaDoorW.PrintLast Go.Proofs.YtalaekadkjhldaaDoorW.PrintMore
attribute [local go_sem] max2_int min2_int max_two min_two max_three min_three max_four min_four
set_option linter.unusedVariables false
set_option linter.unusedSimpArgs false
-- IMPORT Derived.Outline Derived.Deep.RegionHeld3 Derived.Deep.LoopGhost Derived.Deep.Cut
theorem h_three_nums (w : World) : Below w.heap.size w (((w.alloc (.cells #[.int .u8 1, .string ⟨#[49]⟩, .string ⟨#[]⟩, .int .i64 0, .slice none 0 0] 25)).alloc (.cells #[.int .u8 1, .string ⟨#[50]⟩, .string ⟨#[]⟩, .int .i64 0, .slice none 0 0] 25)).alloc (.cells #[.int .u8 1, .string ⟨#[51]⟩, .string ⟨#[]⟩, .int .i64 0, .slice none 0 0] 25)) ∧
    (((w.alloc (.cells #[.int .u8 1, .string ⟨#[49]⟩, .string ⟨#[]⟩, .int .i64 0, .slice none 0 0] 25)).alloc (.cells #[.int .u8 1, .string ⟨#[50]⟩, .string ⟨#[]⟩, .int .i64 0, .slice none 0 0] 25)).alloc (.cells #[.int .u8 1, .string ⟨#[51]⟩, .string ⟨#[]⟩, .int .i64 0, .slice none 0 0] 25)).heap[w.heap.size]? = some (.cells #[.int .u8 1, .string ⟨#[49]⟩, .string ⟨#[]⟩, .int .i64 0, .slice none 0 0] 25 (0, 0)) ∧
    (((w.alloc (.cells #[.int .u8 1, .string ⟨#[49]⟩, .string ⟨#[]⟩, .int .i64 0, .slice none 0 0] 25)).alloc (.cells #[.int .u8 1, .string ⟨#[50]⟩, .string ⟨#[]⟩, .int .i64 0, .slice none 0 0] 25)).alloc (.cells #[.int .u8 1, .string ⟨#[51]⟩, .string ⟨#[]⟩, .int .i64 0, .slice none 0 0] 25)).heap[w.heap.size + 1]? = some (.cells #[.int .u8 1, .string ⟨#[50]⟩, .string ⟨#[]⟩, .int .i64 0, .slice none 0 0] 25 (0, 0)) ∧
    (((w.alloc (.cells #[.int .u8 1, .string ⟨#[49]⟩, .string ⟨#[]⟩, .int .i64 0, .slice none 0 0] 25)).alloc (.cells #[.int .u8 1, .string ⟨#[50]⟩, .string ⟨#[]⟩, .int .i64 0, .slice none 0 0] 25)).alloc (.cells #[.int .u8 1, .string ⟨#[51]⟩, .string ⟨#[]⟩, .int .i64 0, .slice none 0 0] 25)).heap[w.heap.size + 1 + 1]? = some (.cells #[.int .u8 1, .string ⟨#[51]⟩, .string ⟨#[]⟩, .int .i64 0, .slice none 0 0] 25 (0, 0)) := by
  have k0 := blk_new w (.cells #[.int .u8 1, .string ⟨#[49]⟩, .string ⟨#[]⟩, .int .i64 0, .slice none 0 0] 25)
  have b1 := below_alloc (Below.refl (w.alloc (.cells #[.int .u8 1, .string ⟨#[49]⟩, .string ⟨#[]⟩, .int .i64 0, .slice none 0 0] 25)).heap.size (w.alloc (.cells #[.int .u8 1, .string ⟨#[49]⟩, .string ⟨#[]⟩, .int .i64 0, .slice none 0 0] 25))) (.cells #[.int .u8 1, .string ⟨#[50]⟩, .string ⟨#[]⟩, .int .i64 0, .slice none 0 0] 25)
  have k1 := blk_new (w.alloc (.cells #[.int .u8 1, .string ⟨#[49]⟩, .string ⟨#[]⟩, .int .i64 0, .slice none 0 0] 25)) (.cells #[.int .u8 1, .string ⟨#[50]⟩, .string ⟨#[]⟩, .int .i64 0, .slice none 0 0] 25)
  have b2 := below_alloc (Below.refl ((w.alloc (.cells #[.int .u8 1, .string ⟨#[49]⟩, .string ⟨#[]⟩, .int .i64 0, .slice none 0 0] 25)).alloc (.cells #[.int .u8 1, .string ⟨#[50]⟩, .string ⟨#[]⟩, .int .i64 0, .slice none 0 0] 25)).heap.size ((w.alloc (.cells #[.int .u8 1, .string ⟨#[49]⟩, .string ⟨#[]⟩, .int .i64 0, .slice none 0 0] 25)).alloc (.cells #[.int .u8 1, .string ⟨#[50]⟩, .string ⟨#[]⟩, .int .i64 0, .slice none 0 0] 25))) (.cells #[.int .u8 1, .string ⟨#[51]⟩, .string ⟨#[]⟩, .int .i64 0, .slice none 0 0] 25)
  have k2 := blk_new ((w.alloc (.cells #[.int .u8 1, .string ⟨#[49]⟩, .string ⟨#[]⟩, .int .i64 0, .slice none 0 0] 25)).alloc (.cells #[.int .u8 1, .string ⟨#[50]⟩, .string ⟨#[]⟩, .int .i64 0, .slice none 0 0] 25)) (.cells #[.int .u8 1, .string ⟨#[51]⟩, .string ⟨#[]⟩, .int .i64 0, .slice none 0 0] 25)
  refine ⟨below_step (below_step (below_alloc (Below.refl w.heap.size w) (.cells #[.int .u8 1, .string ⟨#[49]⟩, .string ⟨#[]⟩, .int .i64 0, .slice none 0 0] 25)) b1) b2, blk_below (blk_below k0 b1) b2, ?_, ?_⟩
  · have := blk_below k1 b2
    simpa using this
  · simpa using k2
theorem h_case_mem (Y : World) (bl b4 b7 b8 k : Nat) (hk : k = Y.heap.size) (kl : Y.heap[bl]? = some (.cells #[.int .u8 11, .string ⟨#[]⟩, .string ⟨#[]⟩, .int .i64 0, .slice (some ⟨b4, 0, none⟩) 2 2] 25 (0, 0))) (c4 : Kd.C k25 Y (some ⟨b4, 0, none⟩) 2 [(⟨2, ⟨#[]⟩, ⟨#[111, 110]⟩, 0, []⟩ : S25), (pairE 4 (numE ⟨#[49]⟩) (numE ⟨#[50]⟩))]) (c7 : Kd.C k25 Y (some ⟨b7, 0, none⟩) 2 [(numE ⟨#[49]⟩), (numE ⟨#[50]⟩)]) (c8 : Kd.C k25 Y (some ⟨b8, 0, none⟩) 2 [(numE ⟨#[50]⟩), (numE ⟨#[49]⟩)]) :
    Kd.C k25 (Y.alloc (.cells #[.int .u8 15, .string ⟨#[]⟩, .string ⟨#[]⟩, .int .i64 0, .slice (some ⟨bl, 0, none⟩) 1 1, .int .u8 7, .string ⟨#[]⟩, .string ⟨#[]⟩, .int .i64 0, .slice (some ⟨b7, 0, none⟩) 2 2, .int .u8 8, .string ⟨#[]⟩, .string ⟨#[]⟩, .int .i64 0, .slice (some ⟨b8, 0, none⟩) 2 2] 25)) (some ⟨k, 0, none⟩) 3 [(⟨15, ⟨#[]⟩, ⟨#[]⟩, 0, [(pairE 11 (⟨2, ⟨#[]⟩, ⟨#[111, 110]⟩, 0, []⟩ : S25) (pairE 4 (numE ⟨#[49]⟩) (numE ⟨#[50]⟩)))]⟩ : S25), (pairE 7 (numE ⟨#[49]⟩) (numE ⟨#[50]⟩)), (pairE 8 (numE ⟨#[50]⟩) (numE ⟨#[49]⟩))] := by
  subst hk
  have k3 := blk_new Y (.cells #[.int .u8 15, .string ⟨#[]⟩, .string ⟨#[]⟩, .int .i64 0, .slice (some ⟨bl, 0, none⟩) 1 1, .int .u8 7, .string ⟨#[]⟩, .string ⟨#[]⟩, .int .i64 0, .slice (some ⟨b7, 0, none⟩) 2 2, .int .u8 8, .string ⟨#[]⟩, .string ⟨#[]⟩, .int .i64 0, .slice (some ⟨b8, 0, none⟩) 2 2] 25)
  have b3 := below_alloc (Below.refl Y.heap.size Y) (.cells #[.int .u8 15, .string ⟨#[]⟩, .string ⟨#[]⟩, .int .i64 0, .slice (some ⟨bl, 0, none⟩) 1 1, .int .u8 7, .string ⟨#[]⟩, .string ⟨#[]⟩, .int .i64 0, .slice (some ⟨b7, 0, none⟩) 2 2, .int .u8 8, .string ⟨#[]⟩, .string ⟨#[]⟩, .int .i64 0, .slice (some ⟨b8, 0, none⟩) 2 2] 25)
  generalize Y.alloc (.cells #[.int .u8 15, .string ⟨#[]⟩, .string ⟨#[]⟩, .int .i64 0, .slice (some ⟨bl, 0, none⟩) 1 1, .int .u8 7, .string ⟨#[]⟩, .string ⟨#[]⟩, .int .i64 0, .slice (some ⟨b7, 0, none⟩) 2 2, .int .u8 8, .string ⟨#[]⟩, .string ⟨#[]⟩, .int .i64 0, .slice (some ⟨b8, 0, none⟩) 2 2] 25) = Z at k3 b3 ⊢
  refine h_C_blk k3 ?_ rfl (by decide)
  refine h_reps_cons rfl (k25_mk Z (⟨15, ⟨#[]⟩, ⟨#[]⟩, 0, [(pairE 11 (⟨2, ⟨#[]⟩, ⟨#[111, 110]⟩, 0, []⟩ : S25) (pairE 4 (numE ⟨#[49]⟩) (numE ⟨#[50]⟩)))]⟩ : S25) (c4 := 1) (by decide) (h_C_blk (blk_below kl b3) (h_reps_cons (cs := []) rfl (k25_mk Z (pairE 11 (⟨2, ⟨#[]⟩, ⟨#[111, 110]⟩, 0, []⟩ : S25) (pairE 4 (numE ⟨#[49]⟩) (numE ⟨#[50]⟩))) (c4 := 2) (by decide) (Kd.C_below c4 b3)) h_reps_nil) rfl (by decide)))
    (h_reps_cons rfl (k25_mk Z (pairE 7 (numE ⟨#[49]⟩) (numE ⟨#[50]⟩)) (c4 := 2) (by decide) (Kd.C_below c7 b3)) (h_reps_cons (cs := []) rfl (k25_mk Z (pairE 8 (numE ⟨#[50]⟩) (numE ⟨#[49]⟩)) (c4 := 2) (by decide) (Kd.C_below c8 b3)) h_reps_nil))
theorem h_conP_mem (w : World) : Below w.heap.size w (((w.alloc (.cells #[.int .i64 0, .int .i64 31] 3)).alloc (.cells #[.int .u8 1, .string ⟨#[]⟩, .string ⟨#[]⟩, .string ⟨#[]⟩, .int .u8 0, .string ⟨#[]⟩, .string ⟨#[]⟩, .int .i64 0, .slice none 0 0, .int .i64 0, .slice none 0 0, .slice none 0 0] 29)).alloc (.cells #[.int .u8 1, .string ⟨#[]⟩, .string ⟨#[]⟩, .string ⟨#[]⟩, .int .u8 0, .string ⟨#[]⟩, .string ⟨#[]⟩, .int .i64 0, .slice none 0 0, .int .i64 0, .slice none 0 0, .slice none 0 0, .int .u8 8, .string ⟨#[98, 121]⟩, .string ⟨#[]⟩, .string ⟨#[110]⟩, .int .u8 0, .string ⟨#[]⟩, .string ⟨#[]⟩, .int .i64 0, .slice none 0 0, .int .i64 0, .slice (some ⟨w.heap.size, 0, none⟩) 2 2, .slice (some ⟨w.heap.size + 1, 0, none⟩) 1 1] 29)) ∧
    Kd.C k29 (((w.alloc (.cells #[.int .i64 0, .int .i64 31] 3)).alloc (.cells #[.int .u8 1, .string ⟨#[]⟩, .string ⟨#[]⟩, .string ⟨#[]⟩, .int .u8 0, .string ⟨#[]⟩, .string ⟨#[]⟩, .int .i64 0, .slice none 0 0, .int .i64 0, .slice none 0 0, .slice none 0 0] 29)).alloc (.cells #[.int .u8 1, .string ⟨#[]⟩, .string ⟨#[]⟩, .string ⟨#[]⟩, .int .u8 0, .string ⟨#[]⟩, .string ⟨#[]⟩, .int .i64 0, .slice none 0 0, .int .i64 0, .slice none 0 0, .slice none 0 0, .int .u8 8, .string ⟨#[98, 121]⟩, .string ⟨#[]⟩, .string ⟨#[110]⟩, .int .u8 0, .string ⟨#[]⟩, .string ⟨#[]⟩, .int .i64 0, .slice none 0 0, .int .i64 0, .slice (some ⟨w.heap.size, 0, none⟩) 2 2, .slice (some ⟨w.heap.size + 1, 0, none⟩) 1 1] 29)) (some ⟨w.heap.size + 1 + 1, 0, none⟩) 2 [conZ, (⟨8, ⟨#[98, 121]⟩, ⟨#[]⟩, ⟨#[110]⟩, ⟨0, ⟨#[]⟩, ⟨#[]⟩, 0, []⟩, 0, [0, 31], [conZ]⟩ : S29)] := by
  have b1 := below_alloc (Below.refl w.heap.size w) (.cells #[.int .i64 0, .int .i64 31] 3)
  have k1 := blk_new w (.cells #[.int .i64 0, .int .i64 31] 3)
  have e1 : w.heap.size + 1 = (w.alloc (.cells #[.int .i64 0, .int .i64 31] 3)).heap.size := by simp
  generalize w.alloc (.cells #[.int .i64 0, .int .i64 31] 3) = w1 at b1 k1 e1 ⊢
  rw [e1]
  have b2 := below_alloc (Below.refl w1.heap.size w1) (.cells #[.int .u8 1, .string ⟨#[]⟩, .string ⟨#[]⟩, .string ⟨#[]⟩, .int .u8 0, .string ⟨#[]⟩, .string ⟨#[]⟩, .int .i64 0, .slice none 0 0, .int .i64 0, .slice none 0 0, .slice none 0 0] 29)
  have k2 := blk_new w1 (.cells #[.int .u8 1, .string ⟨#[]⟩, .string ⟨#[]⟩, .string ⟨#[]⟩, .int .u8 0, .string ⟨#[]⟩, .string ⟨#[]⟩, .int .i64 0, .slice none 0 0, .int .i64 0, .slice none 0 0, .slice none 0 0] 29)
  have e2 : w1.heap.size + 1 = (w1.alloc (.cells #[.int .u8 1, .string ⟨#[]⟩, .string ⟨#[]⟩, .string ⟨#[]⟩, .int .u8 0, .string ⟨#[]⟩, .string ⟨#[]⟩, .int .i64 0, .slice none 0 0, .int .i64 0, .slice none 0 0, .slice none 0 0] 29)).heap.size := by simp
  generalize w1.alloc (.cells #[.int .u8 1, .string ⟨#[]⟩, .string ⟨#[]⟩, .string ⟨#[]⟩, .int .u8 0, .string ⟨#[]⟩, .string ⟨#[]⟩, .int .i64 0, .slice none 0 0, .int .i64 0, .slice none 0 0, .slice none 0 0] 29) = w2 at b2 k2 e2 ⊢
  rw [e2]
  have b3 := below_alloc (Below.refl w2.heap.size w2) (.cells #[.int .u8 1, .string ⟨#[]⟩, .string ⟨#[]⟩, .string ⟨#[]⟩, .int .u8 0, .string ⟨#[]⟩, .string ⟨#[]⟩, .int .i64 0, .slice none 0 0, .int .i64 0, .slice none 0 0, .slice none 0 0, .int .u8 8, .string ⟨#[98, 121]⟩, .string ⟨#[]⟩, .string ⟨#[110]⟩, .int .u8 0, .string ⟨#[]⟩, .string ⟨#[]⟩, .int .i64 0, .slice none 0 0, .int .i64 0, .slice (some ⟨w.heap.size, 0, none⟩) 2 2, .slice (some ⟨w1.heap.size, 0, none⟩) 1 1] 29)
  have k3 := blk_new w2 (.cells #[.int .u8 1, .string ⟨#[]⟩, .string ⟨#[]⟩, .string ⟨#[]⟩, .int .u8 0, .string ⟨#[]⟩, .string ⟨#[]⟩, .int .i64 0, .slice none 0 0, .int .i64 0, .slice none 0 0, .slice none 0 0, .int .u8 8, .string ⟨#[98, 121]⟩, .string ⟨#[]⟩, .string ⟨#[110]⟩, .int .u8 0, .string ⟨#[]⟩, .string ⟨#[]⟩, .int .i64 0, .slice none 0 0, .int .i64 0, .slice (some ⟨w.heap.size, 0, none⟩) 2 2, .slice (some ⟨w1.heap.size, 0, none⟩) 1 1] 29)
  generalize w2.alloc (.cells #[.int .u8 1, .string ⟨#[]⟩, .string ⟨#[]⟩, .string ⟨#[]⟩, .int .u8 0, .string ⟨#[]⟩, .string ⟨#[]⟩, .int .i64 0, .slice none 0 0, .int .i64 0, .slice none 0 0, .slice none 0 0, .int .u8 8, .string ⟨#[98, 121]⟩, .string ⟨#[]⟩, .string ⟨#[110]⟩, .int .u8 0, .string ⟨#[]⟩, .string ⟨#[]⟩, .int .i64 0, .slice none 0 0, .int .i64 0, .slice (some ⟨w.heap.size, 0, none⟩) 2 2, .slice (some ⟨w1.heap.size, 0, none⟩) 1 1] 29) = w3 at b3 k3 ⊢
  refine ⟨below_step (below_step b1 b2) b3, h_C_blk k3 ?_ rfl (by decide)⟩
  have ci : Kd.C (Kd.int .i64) w3 (some ⟨w.heap.size, 0, none⟩) 2 [0, 31] := h_C_blk (blk_below (blk_below k1 b2) b3) (h_reps_cons (c := [.int .i64 0]) rfl rfl (h_reps_cons (c := [.int .i64 31]) (cs := []) rfl rfl h_reps_nil)) rfl (by decide)
  refine h_reps_cons rfl (h_conZ_K w3) (h_reps_cons (cs := []) rfl (k29_mk w3 (⟨8, ⟨#[98, 121]⟩, ⟨#[]⟩, ⟨#[110]⟩, ⟨0, ⟨#[]⟩, ⟨#[]⟩, 0, []⟩, 0, [0, 31], [conZ]⟩ : S29) (c8 := 0) (by decide) (Kd.C_nil _ _) (c10 := 2) (by decide) ci (c11 := 1) (by decide) (h_C_blk (blk_below k2 b3) (h_reps_cons (cs := []) rfl (h_conZ_K w3) h_reps_nil) rfl (by decide))) h_reps_nil)
set_option maxHeartbeats 40000000 in
set_option maxRecDepth 100000 in
theorem h_names (w0 : World) (hG : ShG w0) (hP : PtG w0) : Calls Tryd.prog 5 #[] w0 fun e w' => e = .returned (.bool true) ∧ Below w0.heap.size w0 w' := by
  have HG0 := Aside0.mk hG
  have HP0 := Aside0.mk hP
  have BN := Aside0.mk (Below.refl w0.heap.size w0)
  clear hG hP
  go_enter Tryd.func5, Tryd.ntmps5
  go_wp2_with (go_at_call 11; (with_reducible refine (h_number _ _).mono ?_); rintro e wq ⟨rfl, hb⟩; have BN := Aside0.mk (below_step (by with_reducible exact Aside0.out (by assumption)) hb); clear hb)

  obtain ⟨bt, t1, t2, t3⟩ := h_three_nums wq
  have b0 := below_step BN.out bt
  clear bt BN
  generalize ((wq.alloc (.cells #[.int .u8 1, .string ⟨#[49]⟩, .string ⟨#[]⟩, .int .i64 0, .slice none 0 0] 25)).alloc (.cells #[.int .u8 1, .string ⟨#[50]⟩, .string ⟨#[]⟩, .int .i64 0, .slice none 0 0] 25)).alloc (.cells #[.int .u8 1, .string ⟨#[51]⟩, .string ⟨#[]⟩, .int .i64 0, .slice none 0 0] 25) = W at b0 t1 t2 t3 ⊢
  generalize wq.heap.size + 1 + 1 = n3 at t1 t2 t3 ⊢
  generalize wq.heap.size + 1 = n2 at t1 t2 t3 ⊢
  generalize wq.heap.size = n1 at t1 t2 t3 ⊢
  have B0 := Aside0.mk b0
  have K1 := Aside0.mk t1
  have K2 := Aside0.mk t2
  have K3 := Aside0.mk t3
  have HG := Aside0.mk (HG0.out.below b0)
  have HP := Aside0.mk (HP0.out.below b0)
  clear b0 t1 t2 t3 HG0 HP0
  go_cut [5] from 26 (fun v5 w' => v5 = .bool true ∧ Aside0 (Below W.heap.size W w'))
  case first =>
    obtain ⟨x1_0, x1_1, x1_2, x1_3, x1_4⟩ := h_box5 (blk_drew K1.out)
    obtain ⟨x2_0, x2_1, x2_2, x2_3, x2_4⟩ := h_box5 (blk_drew K2.out)
    obtain ⟨x3_0, x3_1, x3_2, x3_3, x3_4⟩ := h_box5 (blk_drew K3.out)
    have BN := Aside0.mk (below_drew1 (Below.refl W.heap.size W))
    go_region_held3 (fun w' => w'.cell? ⟨n1, 0, none⟩ = some (.int .u8 1) ∧ w'.cell? ⟨n1, 1, none⟩ = some (.string ⟨#[49]⟩) ∧ w'.cell? ⟨n1, 2, none⟩ = some (.string ⟨#[]⟩) ∧ w'.cell? ⟨n1, 3, none⟩ = some (.int .i64 0) ∧ w'.cell? ⟨n1, 4, none⟩ = some (.slice none 0 0) ∧ w'.cell? ⟨n2, 0, none⟩ = some (.int .u8 1) ∧ w'.cell? ⟨n2, 1, none⟩ = some (.string ⟨#[50]⟩) ∧ w'.cell? ⟨n2, 2, none⟩ = some (.string ⟨#[]⟩) ∧ w'.cell? ⟨n2, 3, none⟩ = some (.int .i64 0) ∧ w'.cell? ⟨n2, 4, none⟩ = some (.slice none 0 0) ∧ w'.cell? ⟨n3, 0, none⟩ = some (.int .u8 1) ∧ w'.cell? ⟨n3, 1, none⟩ = some (.string ⟨#[51]⟩) ∧ w'.cell? ⟨n3, 2, none⟩ = some (.string ⟨#[]⟩) ∧ w'.cell? ⟨n3, 3, none⟩ = some (.int .i64 0) ∧ w'.cell? ⟨n3, 4, none⟩ = some (.slice none 0 0))
      (first
        | (with_reducible exact ⟨x1_0, x1_1, x1_2, x1_3, x1_4, x2_0, x2_1, x2_2, x2_3, x2_4, x3_0, x3_1, x3_2, x3_3, x3_4⟩)
        | (go_split_ands; refine ⟨?_, ?_, ?_, ?_, ?_, ?_, ?_, ?_, ?_, ?_, ?_, ?_, ?_, ?_, ?_⟩ <;> exact pw_cell_below hb (by assumption)))
      (first
        | (go_at_call 14; (with_reducible refine (h_pair _ (numE _) (numE _) none none 0 0 0 0 rfl rfl _ (Kd.C_nil _ _) (Nat.le_refl _) (Kd.C_nil _ _) (Nat.le_refl _)).mono ?_); rintro e wq ⟨bp, rfl, hC, hb⟩; have BN : Aside0 (Below W.heap.size W wq) := Aside0.mk (below_step (by with_reducible first | exact Aside0.out (by assumption) | exact below_drew1 (below_alloc (Below.refl _ _) _) | exact below_alloc (Aside0.out (by assumption)) _) hb); have CN := Aside0.mk hC; clear hC)
        | (go_at_call 14; (with_reducible refine (h_pair _ (pairE _ _ _) (numE _) (some _) none 2 0 2 0 rfl rfl _ CN.out (Nat.le_refl _) (Kd.C_nil _ _) (Nat.le_refl _)).mono ?_); rintro e wq ⟨bp, rfl, hC, hb⟩; have BN : Aside0 (Below W.heap.size W wq) := Aside0.mk (below_step (by with_reducible first | exact Aside0.out (by assumption) | exact below_drew1 (below_alloc (Below.refl _ _) _) | exact below_alloc (Aside0.out (by assumption)) _) hb); have CN := Aside0.mk hC; clear hC)
        | (go_at_call 14; (with_reducible refine (h_pair _ (numE _) (pairE _ _ _) none (some _) 0 2 0 2 rfl rfl _ (Kd.C_nil _ _) (Nat.le_refl _) CN.out (Nat.le_refl _)).mono ?_); rintro e wq ⟨bp, rfl, hC, hb⟩; have BN : Aside0 (Below W.heap.size W wq) := Aside0.mk (below_step (by with_reducible first | exact Aside0.out (by assumption) | exact below_drew1 (below_alloc (Below.refl _ _) _) | exact below_alloc (Aside0.out (by assumption)) _) hb); have CN := Aside0.mk hC; clear hC)
        | (go_at_call 12; (with_reducible refine (h_ask 60 (pairE _ _ _) (some _) 2 2 rfl _ _ (HG.out.below (by with_reducible exact Aside0.out (by assumption))) CN.out (Nat.le_refl _) (by with_reducible first | exact h_s1 | exact h_s2 | exact h_s3 | exact h_s4 | exact h_s5 | exact h_s6)).mono ?_); rintro e wq ⟨rfl, hb⟩; have BN : Aside0 (Below W.heap.size W wq) := Aside0.mk (below_step (by with_reducible first | exact Aside0.out (by assumption) | exact below_drew1 (below_alloc (Below.refl _ _) _) | exact below_alloc (Aside0.out (by assumption)) _) hb)))
    go_wp2_with fail
    go_meet
    case rel => exact ⟨rfl, BN⟩
  case rest =>
    obtain ⟨rfl, BC⟩ := hcut
    obtain ⟨x1_0, x1_1, x1_2, x1_3, x1_4⟩ := h_box5 (blk_below K1.out BC.out)
    obtain ⟨x2_0, x2_1, x2_2, x2_3, x2_4⟩ := h_box5 (blk_below K2.out BC.out)
    go_wp2_with (first
      | (go_at_call 14; (with_reducible refine (h_pair _ (numE _) (numE _) none none 0 0 0 0 rfl rfl _ (Kd.C_nil _ _) (Nat.le_refl _) (Kd.C_nil _ _) (Nat.le_refl _)).mono ?_); rintro e wq ⟨bp, rfl, hC, hb⟩; have BN : Aside0 (Below W.heap.size W wq) := Aside0.mk (below_step (by with_reducible first | exact Aside0.out (by assumption) | exact below_drew1 (below_alloc (Below.refl _ _) _) | exact below_alloc (Aside0.out (by assumption)) _) hb); have CN := Aside0.mk hC; clear hC hb)
      | (go_at_call 14; (with_reducible refine (h_pair _ (⟨2, ⟨#[]⟩, ⟨#[111, 110]⟩, 0, []⟩ : S25) (pairE _ _ _) none (some _) 0 2 0 2 rfl rfl _ (Kd.C_nil _ _) (Nat.le_refl _) CN.out (Nat.le_refl _)).mono ?_); rintro e wq ⟨bp, rfl, hC, hb⟩; have BN : Aside0 (Below W.heap.size W wq) := Aside0.mk (below_step (by with_reducible first | exact Aside0.out (by assumption) | exact below_drew1 (below_alloc (Below.refl _ _) _) | exact below_alloc (Aside0.out (by assumption)) _) hb); have CN := Aside0.mk hC; clear hC hb))
    clear x1_0 x1_1 x1_2 x1_3 x1_4 x2_0 x2_1 x2_2 x2_3 x2_4
    have b6 := below_alloc (Below.refl wq.heap.size wq) (.cells #[.int .u8 11, .string ⟨#[]⟩, .string ⟨#[]⟩, .int .i64 0, .slice (some ⟨bp, 0, none⟩) 2 2] 25)
    have k6 := blk_new wq (.cells #[.int .u8 11, .string ⟨#[]⟩, .string ⟨#[]⟩, .int .i64 0, .slice (some ⟨bp, 0, none⟩) 2 2] 25)
    have c4 := Kd.C_below CN.out b6
    have bw := below_step BN.out b6
    clear b6 BN CN
    generalize wq.alloc (.cells #[.int .u8 11, .string ⟨#[]⟩, .string ⟨#[]⟩, .int .i64 0, .slice (some ⟨bp, 0, none⟩) 2 2] 25) = W5 at k6 c4 bw ⊢
    generalize wq.heap.size = n6 at k6 ⊢
    have K6 := Aside0.mk k6
    have C4 := Aside0.mk c4
    have K15 := Aside0.mk (blk_below K1.out bw)
    have K25 := Aside0.mk (blk_below K2.out bw)
    have B5 := Aside0.mk (below_step B0.out bw)
    have HG5 := Aside0.mk (HG.out.below bw)
    have HP5 := Aside0.mk (HP.out.below bw)
    clear k6 c4 bw BC B0 HG HP K1 K2 K3
    go_cut [7] from 26 (fun v7 w' => v7 = .bool true ∧ Aside0 (Below W5.heap.size W5 w'))
    case first =>
      obtain ⟨x1_0, x1_1, x1_2, x1_3, x1_4⟩ := h_box5 (blk_drew K15.out)
      obtain ⟨x2_0, x2_1, x2_2, x2_3, x2_4⟩ := h_box5 (blk_drew K25.out)
      obtain ⟨x6_0, x6_1, x6_2, x6_3, x6_4⟩ := h_box5 (blk_drew K6.out)
      have BN := Aside0.mk (below_drew1 (Below.refl W5.heap.size W5))
      go_region_held3 (fun w' => w'.cell? ⟨n1, 0, none⟩ = some (.int .u8 1) ∧ w'.cell? ⟨n1, 1, none⟩ = some (.string ⟨#[49]⟩) ∧ w'.cell? ⟨n1, 2, none⟩ = some (.string ⟨#[]⟩) ∧ w'.cell? ⟨n1, 3, none⟩ = some (.int .i64 0) ∧ w'.cell? ⟨n1, 4, none⟩ = some (.slice none 0 0) ∧ w'.cell? ⟨n2, 0, none⟩ = some (.int .u8 1) ∧ w'.cell? ⟨n2, 1, none⟩ = some (.string ⟨#[50]⟩) ∧ w'.cell? ⟨n2, 2, none⟩ = some (.string ⟨#[]⟩) ∧ w'.cell? ⟨n2, 3, none⟩ = some (.int .i64 0) ∧ w'.cell? ⟨n2, 4, none⟩ = some (.slice none 0 0) ∧ w'.cell? ⟨n6, 0, none⟩ = some (.int .u8 11) ∧ w'.cell? ⟨n6, 1, none⟩ = some (.string ⟨#[]⟩) ∧ w'.cell? ⟨n6, 2, none⟩ = some (.string ⟨#[]⟩) ∧ w'.cell? ⟨n6, 3, none⟩ = some (.int .i64 0) ∧ w'.cell? ⟨n6, 4, none⟩ = some (.slice (some ⟨bp, 0, none⟩) 2 2))
        (first
          | (with_reducible exact ⟨x1_0, x1_1, x1_2, x1_3, x1_4, x2_0, x2_1, x2_2, x2_3, x2_4, x6_0, x6_1, x6_2, x6_3, x6_4⟩)
          | (go_split_ands; refine ⟨?_, ?_, ?_, ?_, ?_, ?_, ?_, ?_, ?_, ?_, ?_, ?_, ?_, ?_, ?_⟩ <;> first | (with_reducible exact h_drew_alloc_cell (by assumption)) | (with_reducible exact h_alloc_cell (by assumption)))
          | (go_split_ands; refine ⟨?_, ?_, ?_, ?_, ?_, ?_, ?_, ?_, ?_, ?_, ?_, ?_, ?_, ?_, ?_⟩ <;> exact pw_cell_below hb (by assumption)))
        (first
          | (go_at_call 14; (with_reducible refine (h_pair 7 (numE ⟨#[49]⟩) (numE ⟨#[50]⟩) none none 0 0 0 0 rfl rfl _ (Kd.C_nil _ _) (Nat.le_refl _) (Kd.C_nil _ _) (Nat.le_refl _)).mono ?_); rintro e wq ⟨b7, rfl, hC, hb⟩; have BN : Aside0 (Below W5.heap.size W5 wq) := Aside0.mk (below_step (by with_reducible first | exact Aside0.out (by assumption) | exact below_drew1 (below_alloc (Below.refl _ _) _) | exact below_alloc (Aside0.out (by assumption)) _) hb); have C7 := Aside0.mk hC; have H7 := Aside0.mk hb; (try have KL := Aside0.mk (blk_below (blk_drew (blk_new W5 (.cells #[.int .u8 11, .string ⟨#[]⟩, .string ⟨#[]⟩, .int .i64 0, .slice (some ⟨bp, 0, none⟩) 2 2] 25))) hb)); clear hC)
          | (go_at_call 14; (with_reducible refine (h_pair 8 (numE ⟨#[50]⟩) (numE ⟨#[49]⟩) none none 0 0 0 0 rfl rfl _ (Kd.C_nil _ _) (Nat.le_refl _) (Kd.C_nil _ _) (Nat.le_refl _)).mono ?_); rintro e wq ⟨b8, rfl, hC, hb⟩; have BN : Aside0 (Below W5.heap.size W5 wq) := Aside0.mk (below_step (by with_reducible first | exact Aside0.out (by assumption) | exact below_drew1 (below_alloc (Below.refl _ _) _) | exact below_alloc (Aside0.out (by assumption)) _) hb); have C8 := Aside0.mk hC; have C7 := Aside0.mk (by first | exact Kd.C_below C7.out hb | exact Kd.C_below C7.out (below_step (below_alloc (Below.refl _ _) _) hb)); (first | have KL := Aside0.mk (blk_below KL.out hb) | have KL := Aside0.mk (blk_below (blk_new _ (.cells #[.int .u8 11, .string ⟨#[]⟩, .string ⟨#[]⟩, .int .i64 0, .slice (some ⟨bp, 0, none⟩) 2 2] 25)) hb) | skip); clear hC)
          | (go_at_call 12; (with_reducible refine (h_ask 60 (⟨9, ⟨#[]⟩, ⟨#[]⟩, 0, [(⟨15, ⟨#[]⟩, ⟨#[]⟩, 0, [(pairE 11 (⟨2, ⟨#[]⟩, ⟨#[111, 110]⟩, 0, []⟩ : S25) (pairE 4 (numE ⟨#[49]⟩) (numE ⟨#[50]⟩)))]⟩ : S25), (pairE 7 (numE ⟨#[49]⟩) (numE ⟨#[50]⟩)), (pairE 8 (numE ⟨#[50]⟩) (numE ⟨#[49]⟩))]⟩ : S25) (some _) 3 3 rfl _ _ ?hg ?hx (Nat.le_refl _) h_case).mono ?_); (case hg => exact HG5.out.below (by with_reducible first | exact below_step (Aside0.out (p := Below W5.heap.size W5 _) (by assumption)) (below_alloc (Below.refl _ _) _) | exact below_step (Aside0.out (p := Below W5.heap.size W5 _) (by assumption)) (below_step (below_alloc (Below.refl _ _) _) (below_alloc (Below.refl _ _) _)))); (case hx => first | exact h_case_mem _ _ bp b7 b8 _ rfl KL.out (Kd.C_below C4.out BN.out) C7.out C8.out | exact h_case_mem _ _ bp b7 b8 _ (by simp) (blk_new _ _) (Kd.C_below C4.out (below_step BN.out (below_alloc (Below.refl _ _) _))) (Kd.C_below C7.out (below_alloc (Below.refl _ _) _)) (Kd.C_below C8.out (below_alloc (Below.refl _ _) _))); rintro e wq ⟨rfl, hb⟩; have BZ : Aside0 (Below W5.heap.size W5 wq) := ⟨below_step (by with_reducible first | exact below_step (Aside0.out (p := Below W5.heap.size W5 _) (by assumption)) (below_alloc (Below.refl _ _) _) | exact below_step (Aside0.out (p := Below W5.heap.size W5 _) (by assumption)) (below_step (below_alloc (Below.refl _ _) _) (below_alloc (Below.refl _ _) _))) hb⟩))
      all_goals
        go_wp2_with fail
        go_meet
        case rel => exact ⟨rfl, BZ⟩
    case rest =>
      obtain ⟨rfl, BC⟩ := hcut
      go_wp2_with fail
      have b8 := below_alloc (Below.refl wc.heap.size wc) (.cells #[.int .u8 1, .string ⟨#[]⟩, .string ⟨#[]⟩, .string ⟨#[]⟩, .int .u8 0, .string ⟨#[]⟩, .string ⟨#[]⟩, .int .i64 0, .slice none 0 0, .int .i64 0, .slice none 0 0, .slice none 0 0] 29)
      have e8 : wc.heap.size + 1 = (wc.alloc (.cells #[.int .u8 1, .string ⟨#[]⟩, .string ⟨#[]⟩, .string ⟨#[]⟩, .int .u8 0, .string ⟨#[]⟩, .string ⟨#[]⟩, .int .i64 0, .slice none 0 0, .int .i64 0, .slice none 0 0, .slice none 0 0] 29)).heap.size := by simp
      rw [e8]
      generalize wc.alloc (.cells #[.int .u8 1, .string ⟨#[]⟩, .string ⟨#[]⟩, .string ⟨#[]⟩, .int .u8 0, .string ⟨#[]⟩, .string ⟨#[]⟩, .int .i64 0, .slice none 0 0, .int .i64 0, .slice none 0 0, .slice none 0 0] 29) = W8 at b8 e8 ⊢
      obtain ⟨bm, cm⟩ := h_conP_mem W8
      have B8 : Aside0 (Below W5.heap.size W5 W8) := ⟨below_step BC.out b8⟩
      have B9 := Aside0.mk (below_step B8.out bm)
      refine (h_print 60 conP none none (some ⟨W8.heap.size + 1 + 1, 0, none⟩) 0 0 2 0 0 2 rfl rfl rfl _ (HG5.out.below B9.out) (HP5.out.below B9.out) (Kd.C_nil _ _) (by decide) (Kd.C_nil _ _) (by decide) cm (by decide) _ _ h_conP).mono ?_
      clear bm cm b8 e8
      rintro e w9 ⟨rfl, hb⟩
      have BN : Aside0 (Below W5.heap.size W5 w9) := ⟨below_step B9.out hb⟩
      clear hb
      go_wp2_with (first
        | (go_at_call 15; (with_reducible refine (printer_Quote.calls 60 _ _ _ _ (by with_reducible first | exact h_q1 | exact h_q2 | exact h_q3 | exact h_q4)).mono ?_); rintro e wq ⟨rfl, hb⟩; have BN : Aside0 (Below W5.heap.size W5 wq) := ⟨below_step (by with_reducible exact Aside0.out (by assumption)) hb⟩; clear hb)
        | (go_at_call 13; refine (printer_PrintExpr.calls 60 _ _ _ _ none 0 [] _ _ _ (HG5.out.below BN.out) (Kd.C_nil _ _) (Nat.le_refl _) h_q5).mono ?_; rintro e wq ⟨rfl, hb⟩; have BN : Aside0 (Below W5.heap.size W5 wq) := ⟨below_step (by with_reducible exact Aside0.out (by assumption)) hb⟩; clear hb)
        | (go_at_call 16; refine (novationlaw14_zeros.calls 1100 999 _ _ h_zeros).mono ?_; rintro e wz ⟨vz, rfl, hR, hb⟩; have BN : Aside0 (Below W5.heap.size W5 wz) := ⟨below_step (by with_reducible exact Aside0.out (by assumption)) hb⟩; clear hb; have hcv := own_string Tryd.underlying43 Tryd.underlying5 Tryd.underlying9 (Kd.own_of_R hR); have hz9 := zerosL_size; clear hR))
      have hbig : (⟨#[49]⟩ : ByteArray) ++ strOfNums zerosL = bigS := rfl
      simp only [hbig]
      clear hbig hcv hz9
      have k22 := blk_new wz (.cells #[.int .u8 1, .string bigS, .string ⟨#[]⟩, .int .i64 0, .slice none 0 0] 25)
      have b22 := below_alloc (Below.refl wz.heap.size wz) (.cells #[.int .u8 1, .string bigS, .string ⟨#[]⟩, .int .i64 0, .slice none 0 0] 25)
      have e22 : wz.heap.size + 1 = (wz.alloc (.cells #[.int .u8 1, .string bigS, .string ⟨#[]⟩, .int .i64 0, .slice none 0 0] 25)).heap.size := by simp
      rw [e22]
      generalize wz.alloc (.cells #[.int .u8 1, .string bigS, .string ⟨#[]⟩, .int .i64 0, .slice none 0 0] 25) = W22 at k22 b22 e22 ⊢
      have k23 := blk_new W22 (.cells #[.int .u8 1, .string bigS, .string ⟨#[]⟩, .int .i64 0, .slice none 0 0] 25)
      have b23 := below_alloc (Below.refl W22.heap.size W22) (.cells #[.int .u8 1, .string bigS, .string ⟨#[]⟩, .int .i64 0, .slice none 0 0] 25)
      have B23 := Aside0.mk (below_step (below_step BN.out b22) b23)
      have K22 := Aside0.mk (blk_below k22 b23)
      have N23 : Aside0 (W5.heap.size ≤ W22.heap.size) := ⟨(below_step BN.out b22).size⟩
      have NE : Aside0 (wz.heap.size ≠ W22.heap.size) := ⟨by omega⟩
      clear e22 b22 b23 k22
      generalize W22.alloc (.cells #[.int .u8 1, .string bigS, .string ⟨#[]⟩, .int .i64 0, .slice none 0 0] 25) = W23 at k23 K22 B23 ⊢
      have K23 := Aside0.mk k23
      generalize wz.heap.size = n22 at K22 NE ⊢
      generalize W22.heap.size = n23 at K23 N23 NE ⊢
      clear k23
      go_loopw [143] (fun v143 w' => ∃ i : Nat, i ≤ 20 ∧ v143 = .int .i64 i ∧ Aside0 (SumSt i n22 n23 W5 w')) (fun v143 _ => 20 - (intOf v143).toNat)
      case atStart => exact ⟨0, by omega, rfl, ⟨none, 0, Nat.le_refl _, K23.out, K22.out, fun W' _ => Kd.C_nil _ _, B23.out, N23.out⟩⟩
      case round =>
        clear K22 K23 B23
        obtain ⟨i, hi, rfl, HS⟩ := hrel
        obtain ⟨A, c, hc, k23, k22, hF, hB, _⟩ := HS.out
        obtain ⟨y0, y1, y2, y3, y4⟩ := h_box5 k23
        obtain ⟨z0, z1, z2, z3, z4⟩ := h_box5 k22
        have KA := Aside0.mk k23
        have KB := Aside0.mk k22
        have HF := Aside0.mk hF
        have HBB := Aside0.mk hB
        have HC := Aside0.mk hc
        clear HS k23 k22 hF hB hc
        by_cases hlt : i < 20
        · have hlt2 : decide ((i : Int) < 20) = true := decide_eq_true (by omega)
          go_wp2_with (go_at_call 14; refine (h_pairB 4 (sumE bigS i) (numE bigS) A none c 0 _ 0 _).mono ?_; rintro e w1 ⟨b, rfl, hb, hle, hl⟩; have HB1 := Aside0.mk hb; have HLE := Aside0.mk hle; have HL1 := Aside0.mk hl; have KA1 := Aside0.mk (blk_below KA.out hl); have KB1 := Aside0.mk (blk_below KB.out hl); clear hb hle hl y0 y1 y2 y3 y4 z0 z1 z2 z3 z4; obtain ⟨y0, y1, y2, y3, y4⟩ := h_box5 KA1.out; have f0 := blk_frozen KA1.out 0; have f1 := blk_frozen KA1.out 1; have f2 := blk_frozen KA1.out 2; have f3 := blk_frozen KA1.out 3; have f4 := blk_frozen KA1.out 4)
          go_roundw
          case rel => exact ⟨i + 1, by omega, by go_num, ⟨sum_step i n22 n23 W5 _ w1 A c b _ _ _ _ _ NE.out N23.out HC.out (blk_lt KA.out) KA1.out KB1.out HB1.out HLE.out HF.out HL1.out HBB.out⟩⟩
          case measure => simp [intOf]; omega
        · have hlt2 : decide ((i : Int) < 20) = false := decide_eq_false (by omega)
          have hi20 : i = 20 := by omega
          subst hi20
          have HX := Aside0.mk HF.out.now
          clear hlt
          go_wp2_with (first
            | (go_at_call 13; refine (printer_PrintExpr.calls 1200 _ _ _ _ _ _ _ _ _ _ (HG5.out.below HBB.out) HX.out HC.out bigS_many).mono ?_; rintro e wq ⟨rfl, hb⟩; have BN : Aside0 (Below W5.heap.size W5 wq) := ⟨below_step HBB.out hb⟩; clear hb)
            | (go_at_call 6; refine (h_alive _ (HG5.out.below BN.out) (HP5.out.below BN.out)).mono ?_; rintro e wy ⟨rfl, hb⟩; have BZ : Aside0 (Below W5.heap.size W5 wy) := ⟨below_step BN.out hb⟩; clear hb))
          go_ret
          exact ⟨rfl, below_step B5.out BZ.out⟩

end Go.Proofs.YtalaekadkjhldaaDoor.Pr
