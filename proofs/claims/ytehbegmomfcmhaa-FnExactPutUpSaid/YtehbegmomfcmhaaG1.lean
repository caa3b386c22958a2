/- Each function of the program does what its plain function says. -/
import Derived.Test.YtehbegmomfcmhaaTy
import Derived.Test.YtehbegmomfcmhaaPu
import Derived.Test.YtehbegmomfcmhaaIns
import Derived.Test.YtehbegmomfcmhaaChunk
set_option linter.unusedVariables false
set_option maxRecDepth 100000
namespace Go.Proofs.Ytehbegmomfcmhaa.Ev
abbrev p_slices_Insert_impl_Up_impl_Up : List PK := [.val false (.sl 56 kUp) false, .val false (.int .i64) false, .val false (.sl 56 kUp) false]
abbrev r_slices_Insert_impl_Up_impl_Up : List RK := [.val false (.sl 56 kUp)]
noncomputable def D_slices_Insert_impl_Up_impl_Up (f : Y_slices_Insert_impl_Up_impl_Up) : Nat × Fn := (153, ⟨p_slices_Insert_impl_Up_impl_Up, r_slices_Insert_impl_Up_impl_Up, fun x => f x.1 x.2.1 x.2.2.1⟩)
noncomputable def F_slices_Insert_impl_Up_impl_Up : Fn := (D_slices_Insert_impl_Up_impl_Up P_slices_Insert_impl_Up_impl_Up).2
theorem S_slices_Insert_impl_Up_impl_Up : Sound Try.prog 153 F_slices_Insert_impl_Up_impl_Up := insert_sound kUp (by decide)
abbrev p_slices_Delete_impl_Up_impl_Up : List PK := [.val false (.sl 56 kUp) false, .val false (.int .i64) false, .val false (.int .i64) false]
abbrev r_slices_Delete_impl_Up_impl_Up : List RK := [.val false (.sl 56 kUp)]
noncomputable def D_slices_Delete_impl_Up_impl_Up (f : Y_slices_Delete_impl_Up_impl_Up) : Nat × Fn := (154, ⟨p_slices_Delete_impl_Up_impl_Up, r_slices_Delete_impl_Up_impl_Up, fun x => f x.1 x.2.1 x.2.2.1⟩)
noncomputable def F_slices_Delete_impl_Up_impl_Up : Fn := (D_slices_Delete_impl_Up_impl_Up P_slices_Delete_impl_Up_impl_Up).2
theorem S_slices_Delete_impl_Up_impl_Up : Sound Try.prog 154 F_slices_Delete_impl_Up_impl_Up := delete_sound kUp (by decide)
def A_w_szStringS : Nat → Option Jn := lookN [(122, ⟨[.t 1 false [.int .i64], .t 5 false [.int .i64]], lt 12 15 [], false⟩)]
abbrev p_w_szStringS : List PK := [.val false (.rs 9 .str) false, .val false (.int .i64) false]
abbrev r_w_szStringS : List RK := [.val false (.int .i64)]
noncomputable def D_w_szStringS (f : Y_w_szStringS) : Nat × Fn := (112, ⟨p_w_szStringS, r_w_szStringS, fun x => f x.1 x.2.1⟩)
noncomputable def F_w_szStringS : Fn := (D_w_szStringS P_w_szStringS).2
theorem E_w_szStringS : ∀ x, (mkFn cfg [] A_w_szStringS 28 [.tmp 4] (Try.f112.body.getD .skip) p_w_szStringS r_w_szStringS).fn x = B_w_szStringS x.1 x.2.1 := by intro x; kernel_rfl
theorem S_w_szStringS : Sound Try.prog 112 F_w_szStringS := sm MO cfg_ok tab_nil Try.func112 (by kernel_rfl) (by decide) (E_w_szStringS)
abbrev p_w_szDisk : List PK := [.val true (.pair (.rs 9 .str) (.rs 9 .str)) false, .val false (.int .i64) false]
abbrev r_w_szDisk : List RK := [.val false (.int .i64)]
noncomputable def D_w_szDisk (f : Y_w_szDisk) : Nat × Fn := (54, ⟨p_w_szDisk, r_w_szDisk, fun x => f x.1 x.2.1⟩)
noncomputable def F_w_szDisk : Fn := (D_w_szDisk P_w_szDisk).2
theorem E_w_szDisk (f_w_szStringS : Y_w_szStringS) : ∀ x, (mkFn cfg [D_w_szStringS f_w_szStringS] (lookN []) 18 [.tmp 4] (Try.f54.body.getD .skip) p_w_szDisk r_w_szDisk).fn x = B_w_szDisk f_w_szStringS x.1 x.2.1 := by intro x; kernel_rfl
theorem S_w_szDisk : Sound Try.prog 54 F_w_szDisk := sm MO cfg_ok (tc Try.call112 S_w_szStringS tab_nil) Try.func54 (by kernel_rfl) (by decide) (E_w_szDisk P_w_szStringS)
abbrev p_w_szByteS : List PK := [.val false (.rs 5 (.int .u8)) false, .val false (.int .i64) false]
abbrev r_w_szByteS : List RK := [.val false (.int .i64)]
noncomputable def D_w_szByteS (f : Y_w_szByteS) : Nat × Fn := (149, ⟨p_w_szByteS, r_w_szByteS, fun x => f x.1 x.2.1⟩)
noncomputable def F_w_szByteS : Fn := (D_w_szByteS P_w_szByteS).2
theorem E_w_szByteS : ∀ x, (mkFn cfg [] (lookN []) 12 [.tmp 4] (Try.f149.body.getD .skip) p_w_szByteS r_w_szByteS).fn x = B_w_szByteS x.1 x.2.1 := by intro x; kernel_rfl
theorem S_w_szByteS : Sound Try.prog 149 F_w_szByteS := sm MO cfg_ok tab_nil Try.func149 (by kernel_rfl) (by decide) (E_w_szByteS)
abbrev p_w_szUp : List PK := [.val true (.pair .str (.pair (.int .i64) (.pair (.rs 5 (.int .u8)) .bool))) false, .val false (.int .i64) false]
abbrev r_w_szUp : List RK := [.val false (.int .i64)]
noncomputable def D_w_szUp (f : Y_w_szUp) : Nat × Fn := (113, ⟨p_w_szUp, r_w_szUp, fun x => f x.1 x.2.1⟩)
noncomputable def F_w_szUp : Fn := (D_w_szUp P_w_szUp).2
theorem E_w_szUp (f_w_szByteS : Y_w_szByteS) : ∀ x, (mkFn cfg [D_w_szByteS f_w_szByteS] (lookN []) 19 [.tmp 4] (Try.f113.body.getD .skip) p_w_szUp r_w_szUp).fn x = B_w_szUp f_w_szByteS x.1 x.2.1 := by intro x; kernel_rfl
theorem S_w_szUp : Sound Try.prog 113 F_w_szUp := sm MO cfg_ok (tc Try.call149 S_w_szByteS tab_nil) Try.func113 (by kernel_rfl) (by decide) (E_w_szUp P_w_szByteS)
def A_w_szUpS : Nat → Option Jn := lookN [(122, ⟨[.t 1 false [.int .i64], .t 5 false [.int .i64]], lt 12 14 [], false⟩)]
abbrev p_w_szUpS : List PK := [.val false (.rs 139 kUp) false, .val false (.int .i64) false]
abbrev r_w_szUpS : List RK := [.val false (.int .i64)]
noncomputable def D_w_szUpS (f : Y_w_szUpS) : Nat × Fn := (55, ⟨p_w_szUpS, r_w_szUpS, fun x => f x.1 x.2.1⟩)
noncomputable def F_w_szUpS : Fn := (D_w_szUpS P_w_szUpS).2
theorem E_w_szUpS (f_w_szUp : Y_w_szUp) : ∀ x, (mkFn cfg [D_w_szUp f_w_szUp] A_w_szUpS 27 [.tmp 4] (Try.f55.body.getD .skip) p_w_szUpS r_w_szUpS).fn x = B_w_szUpS f_w_szUp x.1 x.2.1 := by intro x; kernel_rfl
theorem S_w_szUpS : Sound Try.prog 55 F_w_szUpS := sm MO cfg_ok (tc Try.call113 S_w_szUp tab_nil) Try.func55 (by kernel_rfl) (by decide) (E_w_szUpS P_w_szUp)
abbrev p_w_szStore : List PK := [.val true (.pair (.pair (.rs 9 .str) (.rs 9 .str)) (.pair (.int .i64) (.pair (.int .i64) (.rs 139 kUp)))) false, .val false (.int .i64) false]
abbrev r_w_szStore : List RK := [.val false (.int .i64)]
noncomputable def D_w_szStore (f : Y_w_szStore) : Nat × Fn := (16, ⟨p_w_szStore, r_w_szStore, fun x => f x.1 x.2.1⟩)
noncomputable def F_w_szStore : Fn := (D_w_szStore P_w_szStore).2
theorem E_w_szStore (f_w_szDisk : Y_w_szDisk) (f_w_szUpS : Y_w_szUpS) : ∀ x, (mkFn cfg [D_w_szDisk f_w_szDisk, D_w_szUpS f_w_szUpS] (lookN []) 18 [.tmp 4] (Try.f16.body.getD .skip) p_w_szStore r_w_szStore).fn x = B_w_szStore f_w_szDisk f_w_szUpS x.1 x.2.1 := by intro x; kernel_rfl
theorem S_w_szStore : Sound Try.prog 16 F_w_szStore := sm MO cfg_ok (tc Try.call54 S_w_szDisk (tc Try.call55 S_w_szUpS tab_nil)) Try.func16 (by kernel_rfl) (by decide) (E_w_szStore P_w_szDisk P_w_szUpS)
def A_w_toStringS : Nat → Option Jn := lookN [(58, ⟨[.t 3 false [.own 7], .t 4 false [.int .i64], .r 7 9 .str], lt 8 13 [.x 20], false⟩)]
abbrev p_w_toStringS : List PK := [.val false (.rs 9 .str) false]
abbrev r_w_toStringS : List RK := [.val false (.sl 9 .str)]
noncomputable def D_w_toStringS (f : Y_w_toStringS) : Nat × Fn := (117, ⟨p_w_toStringS, r_w_toStringS, fun x => f x.1⟩)
noncomputable def F_w_toStringS : Fn := (D_w_toStringS P_w_toStringS).2
theorem E_w_toStringS : ∀ x, (mkFn cfg [] A_w_toStringS 22 [.tmp 2] (Try.f117.body.getD .skip) p_w_toStringS r_w_toStringS).fn x = B_w_toStringS x.1 := by intro x; kernel_rfl
theorem S_w_toStringS : Sound Try.prog 117 F_w_toStringS := sm MO cfg_ok tab_nil Try.func117 (by kernel_rfl) (by decide) (E_w_toStringS)
abbrev p_w_toDisk : List PK := [.val true (.pair (.rs 9 .str) (.rs 9 .str)) false]
abbrev r_w_toDisk : List RK := [.val true kDisk]
noncomputable def D_w_toDisk (f : Y_w_toDisk) : Nat × Fn := (62, ⟨p_w_toDisk, r_w_toDisk, fun x => f x.1⟩)
noncomputable def F_w_toDisk : Fn := (D_w_toDisk P_w_toDisk).2
theorem E_w_toDisk (f_w_toStringS : Y_w_toStringS) : ∀ x, (mkFn cfg [D_w_toStringS f_w_toStringS] (lookN []) 13 [.cell 2 33] (Try.f62.body.getD .skip) p_w_toDisk r_w_toDisk).fn x = B_w_toDisk f_w_toStringS x.1 := by intro x; kernel_rfl
theorem S_w_toDisk : Sound Try.prog 62 F_w_toDisk := sm MO cfg_ok (tc Try.call117 S_w_toStringS tab_nil) Try.func62 (by kernel_rfl) (by decide) (E_w_toDisk P_w_toStringS)
def A_w_toByteS : Nat → Option Jn := lookN [(58, ⟨[.t 3 false [.own 7], .t 4 false [.int .i64], .r 7 5 (.int .u8)], lt 8 13 [.x 20], false⟩)]
abbrev p_w_toByteS : List PK := [.val false (.rs 5 (.int .u8)) false]
abbrev r_w_toByteS : List RK := [.val false (.sl 5 (.int .u8))]
noncomputable def D_w_toByteS (f : Y_w_toByteS) : Nat × Fn := (43, ⟨p_w_toByteS, r_w_toByteS, fun x => f x.1⟩)
noncomputable def F_w_toByteS : Fn := (D_w_toByteS P_w_toByteS).2
theorem E_w_toByteS : ∀ x, (mkFn cfg [] A_w_toByteS 22 [.tmp 2] (Try.f43.body.getD .skip) p_w_toByteS r_w_toByteS).fn x = B_w_toByteS x.1 := by intro x; kernel_rfl
theorem S_w_toByteS : Sound Try.prog 43 F_w_toByteS := sm MO cfg_ok tab_nil Try.func43 (by kernel_rfl) (by decide) (E_w_toByteS)
abbrev p_w_toUp : List PK := [.val true (.pair .str (.pair (.int .i64) (.pair (.rs 5 (.int .u8)) .bool))) false]
abbrev r_w_toUp : List RK := [.val true kUp]
noncomputable def D_w_toUp (f : Y_w_toUp) : Nat × Fn := (118, ⟨p_w_toUp, r_w_toUp, fun x => f x.1⟩)
noncomputable def F_w_toUp : Fn := (D_w_toUp P_w_toUp).2
theorem E_w_toUp (f_w_toByteS : Y_w_toByteS) : ∀ x, (mkFn cfg [D_w_toByteS f_w_toByteS] (lookN []) 18 [.cell 2 56] (Try.f118.body.getD .skip) p_w_toUp r_w_toUp).fn x = B_w_toUp f_w_toByteS x.1 := by intro x; kernel_rfl
theorem S_w_toUp : Sound Try.prog 118 F_w_toUp := sm MO cfg_ok (tc Try.call43 S_w_toByteS tab_nil) Try.func118 (by kernel_rfl) (by decide) (E_w_toUp P_w_toByteS)
def A_w_toUpS : Nat → Option Jn := lookN [(58, ⟨[.t 3 false [.own 7], .t 4 false [.int .i64], .r 7 56 kUp], lt 8 14 [.r 86018, .x 21], false⟩)]
abbrev p_w_toUpS : List PK := [.val false (.rs 139 kUp) false]
abbrev r_w_toUpS : List RK := [.val false (.sl 56 kUp)]
noncomputable def D_w_toUpS (f : Y_w_toUpS) : Nat × Fn := (63, ⟨p_w_toUpS, r_w_toUpS, fun x => f x.1⟩)
noncomputable def F_w_toUpS : Fn := (D_w_toUpS P_w_toUpS).2
theorem E_w_toUpS (f_w_toUp : Y_w_toUp) : ∀ x, (mkFn cfg [D_w_toUp f_w_toUp] A_w_toUpS 23 [.tmp 2] (Try.f63.body.getD .skip) p_w_toUpS r_w_toUpS).fn x = B_w_toUpS f_w_toUp x.1 := by intro x; kernel_rfl
theorem S_w_toUpS : Sound Try.prog 63 F_w_toUpS := sm MO cfg_ok (tc Try.call118 S_w_toUp tab_nil) Try.func63 (by kernel_rfl) (by decide) (E_w_toUpS P_w_toUp)
abbrev p_w_toStore : List PK := [.val true (.pair (.pair (.rs 9 .str) (.rs 9 .str)) (.pair (.int .i64) (.pair (.int .i64) (.rs 139 kUp)))) false]
abbrev r_w_toStore : List RK := [.val true kStore]
noncomputable def D_w_toStore (f : Y_w_toStore) : Nat × Fn := (18, ⟨p_w_toStore, r_w_toStore, fun x => f x.1⟩)
noncomputable def F_w_toStore : Fn := (D_w_toStore P_w_toStore).2
theorem E_w_toStore (f_w_toDisk : Y_w_toDisk) (f_w_toUpS : Y_w_toUpS) : ∀ x, (mkFn cfg [D_w_toDisk f_w_toDisk, D_w_toUpS f_w_toUpS] (lookN []) 19 [.cell 2 36] (Try.f18.body.getD .skip) p_w_toStore r_w_toStore).fn x = B_w_toStore f_w_toDisk f_w_toUpS x.1 := by intro x; kernel_rfl
theorem S_w_toStore : Sound Try.prog 18 F_w_toStore := sm MO cfg_ok (tc Try.call62 S_w_toDisk (tc Try.call63 S_w_toUpS tab_nil)) Try.func18 (by kernel_rfl) (by decide) (E_w_toStore P_w_toDisk P_w_toUpS)
def A_w_eqStringS : Nat → Option Jn := lookN [(58, ⟨[.t 5 false [.int .i64]], lt 11 15 [], false⟩)]
abbrev p_w_eqStringS : List PK := [.val false (.rs 9 .str) false, .val false (.rs 9 .str) false]
abbrev r_w_eqStringS : List RK := [.val false .bool]
noncomputable def D_w_eqStringS (f : Y_w_eqStringS) : Nat × Fn := (123, ⟨p_w_eqStringS, r_w_eqStringS, fun x => f x.1 x.2.1⟩)
noncomputable def F_w_eqStringS : Fn := (D_w_eqStringS P_w_eqStringS).2
theorem E_w_eqStringS : ∀ x, (mkFn cfg [] A_w_eqStringS 26 [.tmp 4] (Try.f123.body.getD .skip) p_w_eqStringS r_w_eqStringS).fn x = B_w_eqStringS x.1 x.2.1 := by intro x; kernel_rfl
theorem S_w_eqStringS : Sound Try.prog 123 F_w_eqStringS := sm MO cfg_ok tab_nil Try.func123 (by kernel_rfl) (by decide) (E_w_eqStringS)
abbrev p_w_eqDisk : List PK := [.val true (.pair (.rs 9 .str) (.rs 9 .str)) false, .val true (.pair (.rs 9 .str) (.rs 9 .str)) false]
abbrev r_w_eqDisk : List RK := [.val false .bool]
noncomputable def D_w_eqDisk (f : Y_w_eqDisk) : Nat × Fn := (66, ⟨p_w_eqDisk, r_w_eqDisk, fun x => f x.1 x.2.1⟩)
noncomputable def F_w_eqDisk : Fn := (D_w_eqDisk P_w_eqDisk).2
theorem E_w_eqDisk (f_w_eqStringS : Y_w_eqStringS) : ∀ x, (mkFn cfg [D_w_eqStringS f_w_eqStringS] (lookN []) 17 [.tmp 4] (Try.f66.body.getD .skip) p_w_eqDisk r_w_eqDisk).fn x = B_w_eqDisk f_w_eqStringS x.1 x.2.1 := by intro x; kernel_rfl
theorem S_w_eqDisk : Sound Try.prog 66 F_w_eqDisk := sm MO cfg_ok (tc Try.call123 S_w_eqStringS tab_nil) Try.func66 (by kernel_rfl) (by decide) (E_w_eqDisk P_w_eqStringS)
def A_w_eqByteS : Nat → Option Jn := lookN [(58, ⟨[.t 5 false [.int .i64]], lt 11 15 [], false⟩)]
abbrev p_w_eqByteS : List PK := [.val false (.rs 5 (.int .u8)) false, .val false (.rs 5 (.int .u8)) false]
abbrev r_w_eqByteS : List RK := [.val false .bool]
noncomputable def D_w_eqByteS (f : Y_w_eqByteS) : Nat × Fn := (44, ⟨p_w_eqByteS, r_w_eqByteS, fun x => f x.1 x.2.1⟩)
noncomputable def F_w_eqByteS : Fn := (D_w_eqByteS P_w_eqByteS).2
theorem E_w_eqByteS : ∀ x, (mkFn cfg [] A_w_eqByteS 26 [.tmp 4] (Try.f44.body.getD .skip) p_w_eqByteS r_w_eqByteS).fn x = B_w_eqByteS x.1 x.2.1 := by intro x; kernel_rfl
theorem S_w_eqByteS : Sound Try.prog 44 F_w_eqByteS := sm MO cfg_ok tab_nil Try.func44 (by kernel_rfl) (by decide) (E_w_eqByteS)
abbrev p_w_eqUp : List PK := [.val true (.pair .str (.pair (.int .i64) (.pair (.rs 5 (.int .u8)) .bool))) false, .val true (.pair .str (.pair (.int .i64) (.pair (.rs 5 (.int .u8)) .bool))) false]
abbrev r_w_eqUp : List RK := [.val false .bool]
noncomputable def D_w_eqUp (f : Y_w_eqUp) : Nat × Fn := (124, ⟨p_w_eqUp, r_w_eqUp, fun x => f x.1 x.2.1⟩)
noncomputable def F_w_eqUp : Fn := (D_w_eqUp P_w_eqUp).2
theorem E_w_eqUp (f_w_eqByteS : Y_w_eqByteS) : ∀ x, (mkFn cfg [D_w_eqByteS f_w_eqByteS] (lookN []) 26 [.tmp 4] (Try.f124.body.getD .skip) p_w_eqUp r_w_eqUp).fn x = B_w_eqUp f_w_eqByteS x.1 x.2.1 := by intro x; kernel_rfl
theorem S_w_eqUp : Sound Try.prog 124 F_w_eqUp := sm MO cfg_ok (tc Try.call44 S_w_eqByteS tab_nil) Try.func124 (by kernel_rfl) (by decide) (E_w_eqUp P_w_eqByteS)
def A_w_eqUpS : Nat → Option Jn := lookN [(58, ⟨[.t 5 false [.int .i64]], lt 11 16 [], false⟩)]
abbrev p_w_eqUpS : List PK := [.val false (.rs 56 kUp) false, .val false (.rs 56 kUp) false]
abbrev r_w_eqUpS : List RK := [.val false .bool]
noncomputable def D_w_eqUpS (f : Y_w_eqUpS) : Nat × Fn := (67, ⟨p_w_eqUpS, r_w_eqUpS, fun x => f x.1 x.2.1⟩)
noncomputable def F_w_eqUpS : Fn := (D_w_eqUpS P_w_eqUpS).2
theorem E_w_eqUpS (f_w_eqUp : Y_w_eqUp) : ∀ x, (mkFn cfg [D_w_eqUp f_w_eqUp] A_w_eqUpS 27 [.tmp 4] (Try.f67.body.getD .skip) p_w_eqUpS r_w_eqUpS).fn x = B_w_eqUpS f_w_eqUp x.1 x.2.1 := by intro x; kernel_rfl
theorem S_w_eqUpS : Sound Try.prog 67 F_w_eqUpS := sm MO cfg_ok (tc Try.call124 S_w_eqUp tab_nil) Try.func67 (by kernel_rfl) (by decide) (E_w_eqUpS P_w_eqUp)
abbrev p_w_eqStore : List PK := [.val true (.pair (.pair (.rs 9 .str) (.rs 9 .str)) (.pair (.int .i64) (.pair (.int .i64) (.rs 56 kUp)))) false, .val true (.pair (.pair (.rs 9 .str) (.rs 9 .str)) (.pair (.int .i64) (.pair (.int .i64) (.rs 56 kUp)))) false]
abbrev r_w_eqStore : List RK := [.val false .bool]
noncomputable def D_w_eqStore (f : Y_w_eqStore) : Nat × Fn := (20, ⟨p_w_eqStore, r_w_eqStore, fun x => f x.1 x.2.1⟩)
noncomputable def F_w_eqStore : Fn := (D_w_eqStore P_w_eqStore).2
theorem E_w_eqStore (f_w_eqDisk : Y_w_eqDisk) (f_w_eqUpS : Y_w_eqUpS) : ∀ x, (mkFn cfg [D_w_eqDisk f_w_eqDisk, D_w_eqUpS f_w_eqUpS] (lookN []) 27 [.tmp 4] (Try.f20.body.getD .skip) p_w_eqStore r_w_eqStore).fn x = B_w_eqStore f_w_eqDisk f_w_eqUpS x.1 x.2.1 := by intro x; kernel_rfl
theorem S_w_eqStore : Sound Try.prog 20 F_w_eqStore := sm MO cfg_ok (tc Try.call66 S_w_eqDisk (tc Try.call67 S_w_eqUpS tab_nil)) Try.func20 (by kernel_rfl) (by decide) (E_w_eqStore P_w_eqDisk P_w_eqUpS)
def A_w_markText : Nat → Option Jn := lookN [(15, ⟨[.t 3 false [.str]], lt 6 12 [.r 12, .t 0], true⟩), (60, ⟨[.t 0 false [.int .i64], .t 3 false [.str]], lt 6 12 [.r 12], false⟩)]
abbrev p_w_markText : List PK := [.val false (.int .i64) false]
abbrev r_w_markText : List RK := [.val false .str]
noncomputable def D_w_markText (f : Y_w_markText) : Nat × Fn := (126, ⟨p_w_markText, r_w_markText, fun x => f x.1⟩)
noncomputable def F_w_markText : Fn := (D_w_markText P_w_markText).2
theorem E_w_markText : ∀ x, (mkFn cfg [] A_w_markText 20 [.tmp 2] (Try.f126.body.getD .skip) p_w_markText r_w_markText).fn x = B_w_markText x.1 := by intro x; kernel_rfl
theorem S_w_markText : Sound Try.prog 126 F_w_markText := sm MO cfg_ok tab_nil Try.func126 (by kernel_rfl) (by decide) (E_w_markText)
def A_w_markStringS : Nat → Option Jn := lookN [(26, ⟨[.t 0 false [.own 1000], .t 1 false [.int .i64], .t 5 false [.int .i64], .r 1000 9 .str], lt 6 13 [.x 16], false⟩)]
abbrev p_w_markStringS : List PK := [.val false (.sl 9 .str) true, .val false (.int .i64) false]
abbrev r_w_markStringS : List RK := [.val false (.int .i64)]
noncomputable def D_w_markStringS (f : Y_w_markStringS) : Nat × Fn := (125, ⟨p_w_markStringS, r_w_markStringS, fun x => f x.1 x.2.1⟩)
noncomputable def F_w_markStringS : Fn := (D_w_markStringS P_w_markStringS).2
theorem E_w_markStringS (f_w_markText : Y_w_markText) : ∀ x, (mkFn cfg [D_w_markText f_w_markText] A_w_markStringS 20 [.tmp 4] (Try.f125.body.getD .skip) p_w_markStringS r_w_markStringS).fn x = B_w_markStringS f_w_markText x.1 x.2.1 := by intro x; kernel_rfl
theorem S_w_markStringS : Sound Try.prog 125 F_w_markStringS := sm MO cfg_ok (tc Try.call126 S_w_markText tab_nil) Try.func125 (by kernel_rfl) (by decide) (E_w_markStringS P_w_markText)
abbrev p_w_markDisk : List PK := [.val true kDisk true, .val false (.int .i64) false]
abbrev r_w_markDisk : List RK := [.val false (.int .i64)]
noncomputable def D_w_markDisk (f : Y_w_markDisk) : Nat × Fn := (68, ⟨p_w_markDisk, r_w_markDisk, fun x => f x.1 x.2.1⟩)
noncomputable def F_w_markDisk : Fn := (D_w_markDisk P_w_markDisk).2
theorem E_w_markDisk (f_w_markStringS : Y_w_markStringS) : ∀ x, (mkFn cfg [D_w_markStringS f_w_markStringS] (lookN []) 14 [.tmp 4] (Try.f68.body.getD .skip) p_w_markDisk r_w_markDisk).fn x = B_w_markDisk f_w_markStringS x.1 x.2.1 := by intro x; kernel_rfl
theorem S_w_markDisk : Sound Try.prog 68 F_w_markDisk := sm MO cfg_ok (tc Try.call125 S_w_markStringS tab_nil) Try.func68 (by kernel_rfl) (by decide) (E_w_markDisk P_w_markStringS)
def A_w_markByteS : Nat → Option Jn := lookN [(26, ⟨[.t 0 false [.own 1000], .t 1 false [.int .i64], .t 5 false [.int .i64], .r 1000 5 (.int .u8)], lt 6 13 [.x 16], false⟩)]
abbrev p_w_markByteS : List PK := [.val false (.sl 5 (.int .u8)) true, .val false (.int .i64) false]
abbrev r_w_markByteS : List RK := [.val false (.int .i64)]
noncomputable def D_w_markByteS (f : Y_w_markByteS) : Nat × Fn := (45, ⟨p_w_markByteS, r_w_markByteS, fun x => f x.1 x.2.1⟩)
noncomputable def F_w_markByteS : Fn := (D_w_markByteS P_w_markByteS).2
theorem E_w_markByteS : ∀ x, (mkFn cfg [] A_w_markByteS 20 [.tmp 4] (Try.f45.body.getD .skip) p_w_markByteS r_w_markByteS).fn x = B_w_markByteS x.1 x.2.1 := by intro x; kernel_rfl
theorem S_w_markByteS : Sound Try.prog 45 F_w_markByteS := sm MO cfg_ok tab_nil Try.func45 (by kernel_rfl) (by decide) (E_w_markByteS)
def A_w_markUpS : Nat → Option Jn := lookN [(26, ⟨[.t 0 false [.own 1000], .t 1 false [.int .i64], .t 5 false [.int .i64], .r 1000 56 kUp], lt 6 37 [.x 16, .x 23, .x 29, .x 39], false⟩)]
abbrev p_w_markUpS : List PK := [.val false (.sl 56 kUp) true, .val false (.int .i64) false]
abbrev r_w_markUpS : List RK := [.val false (.int .i64)]
noncomputable def D_w_markUpS (f : Y_w_markUpS) : Nat × Fn := (69, ⟨p_w_markUpS, r_w_markUpS, fun x => f x.1 x.2.1⟩)
noncomputable def F_w_markUpS : Fn := (D_w_markUpS P_w_markUpS).2
theorem E_w_markUpS (f_w_markByteS : Y_w_markByteS) (f_w_markText : Y_w_markText) : ∀ x, (mkFn cfg [D_w_markByteS f_w_markByteS, D_w_markText f_w_markText] A_w_markUpS 44 [.tmp 4] (Try.f69.body.getD .skip) p_w_markUpS r_w_markUpS).fn x = B_w_markUpS f_w_markByteS f_w_markText x.1 x.2.1 := by intro x; kernel_rfl
theorem S_w_markUpS : Sound Try.prog 69 F_w_markUpS := sm MO cfg_ok (tc Try.call45 S_w_markByteS (tc Try.call126 S_w_markText tab_nil)) Try.func69 (by kernel_rfl) (by decide) (E_w_markUpS P_w_markByteS P_w_markText)
abbrev p_w_markStore : List PK := [.val true kStore true, .val false (.int .i64) false]
abbrev r_w_markStore : List RK := [.val false (.int .i64)]
noncomputable def D_w_markStore (f : Y_w_markStore) : Nat × Fn := (21, ⟨p_w_markStore, r_w_markStore, fun x => f x.1 x.2.1⟩)
noncomputable def F_w_markStore : Fn := (D_w_markStore P_w_markStore).2
theorem E_w_markStore (f_w_markDisk : Y_w_markDisk) (f_w_markUpS : Y_w_markUpS) : ∀ x, (mkFn cfg [D_w_markDisk f_w_markDisk, D_w_markUpS f_w_markUpS] (lookN []) 14 [.tmp 4] (Try.f21.body.getD .skip) p_w_markStore r_w_markStore).fn x = B_w_markStore f_w_markDisk f_w_markUpS x.1 x.2.1 := by intro x; kernel_rfl
theorem S_w_markStore : Sound Try.prog 21 F_w_markStore := sm MO cfg_ok (tc Try.call68 S_w_markDisk (tc Try.call69 S_w_markUpS tab_nil)) Try.func21 (by kernel_rfl) (by decide) (E_w_markStore P_w_markDisk P_w_markUpS)
def A_w_heldStringS : Nat → Option Jn := lookN [(26, ⟨[.t 1 false [.int .i64], .t 5 false [.int .i64]], lt 6 15 [], false⟩)]
abbrev p_w_heldStringS : List PK := [.val false (.rs 9 .str) false, .val false (.int .i64) false]
abbrev r_w_heldStringS : List RK := [.val false (.int .i64)]
noncomputable def D_w_heldStringS (f : Y_w_heldStringS) : Nat × Fn := (127, ⟨p_w_heldStringS, r_w_heldStringS, fun x => f x.1 x.2.1⟩)
noncomputable def F_w_heldStringS : Fn := (D_w_heldStringS P_w_heldStringS).2
theorem E_w_heldStringS (f_w_markText : Y_w_markText) : ∀ x, (mkFn cfg [D_w_markText f_w_markText] A_w_heldStringS 22 [.tmp 4] (Try.f127.body.getD .skip) p_w_heldStringS r_w_heldStringS).fn x = B_w_heldStringS f_w_markText x.1 x.2.1 := by intro x; kernel_rfl
theorem S_w_heldStringS : Sound Try.prog 127 F_w_heldStringS := sm MO cfg_ok (tc Try.call126 S_w_markText tab_nil) Try.func127 (by kernel_rfl) (by decide) (E_w_heldStringS P_w_markText)
abbrev p_w_heldDisk : List PK := [.val true (.pair (.rs 9 .str) (.rs 9 .str)) false, .val false (.int .i64) false]
abbrev r_w_heldDisk : List RK := [.val false (.int .i64)]
noncomputable def D_w_heldDisk (f : Y_w_heldDisk) : Nat × Fn := (70, ⟨p_w_heldDisk, r_w_heldDisk, fun x => f x.1 x.2.1⟩)
noncomputable def F_w_heldDisk : Fn := (D_w_heldDisk P_w_heldDisk).2
theorem E_w_heldDisk (f_w_heldStringS : Y_w_heldStringS) : ∀ x, (mkFn cfg [D_w_heldStringS f_w_heldStringS] (lookN []) 18 [.tmp 4] (Try.f70.body.getD .skip) p_w_heldDisk r_w_heldDisk).fn x = B_w_heldDisk f_w_heldStringS x.1 x.2.1 := by intro x; kernel_rfl
theorem S_w_heldDisk : Sound Try.prog 70 F_w_heldDisk := sm MO cfg_ok (tc Try.call127 S_w_heldStringS tab_nil) Try.func70 (by kernel_rfl) (by decide) (E_w_heldDisk P_w_heldStringS)
def A_w_heldByteS : Nat → Option Jn := lookN [(26, ⟨[.t 1 false [.int .i64], .t 5 false [.int .i64]], lt 6 15 [], false⟩)]
abbrev p_w_heldByteS : List PK := [.val false (.rs 5 (.int .u8)) false, .val false (.int .i64) false]
abbrev r_w_heldByteS : List RK := [.val false (.int .i64)]
noncomputable def D_w_heldByteS (f : Y_w_heldByteS) : Nat × Fn := (128, ⟨p_w_heldByteS, r_w_heldByteS, fun x => f x.1 x.2.1⟩)
noncomputable def F_w_heldByteS : Fn := (D_w_heldByteS P_w_heldByteS).2
theorem E_w_heldByteS : ∀ x, (mkFn cfg [] A_w_heldByteS 22 [.tmp 4] (Try.f128.body.getD .skip) p_w_heldByteS r_w_heldByteS).fn x = B_w_heldByteS x.1 x.2.1 := by intro x; kernel_rfl
theorem S_w_heldByteS : Sound Try.prog 128 F_w_heldByteS := sm MO cfg_ok tab_nil Try.func128 (by kernel_rfl) (by decide) (E_w_heldByteS)
def A_w_heldUpS : Nat → Option Jn := lookN [(26, ⟨[.t 1 false [.int .i64], .t 5 false [.int .i64]], lt 6 45 [], false⟩)]
abbrev p_w_heldUpS : List PK := [.val false (.rs 56 kUp) false, .val false (.int .i64) false]
abbrev r_w_heldUpS : List RK := [.val false (.int .i64)]
noncomputable def D_w_heldUpS (f : Y_w_heldUpS) : Nat × Fn := (71, ⟨p_w_heldUpS, r_w_heldUpS, fun x => f x.1 x.2.1⟩)
noncomputable def F_w_heldUpS : Fn := (D_w_heldUpS P_w_heldUpS).2
theorem E_w_heldUpS (f_w_markText : Y_w_markText) (f_w_heldByteS : Y_w_heldByteS) : ∀ x, (mkFn cfg [D_w_markText f_w_markText, D_w_heldByteS f_w_heldByteS] A_w_heldUpS 52 [.tmp 4] (Try.f71.body.getD .skip) p_w_heldUpS r_w_heldUpS).fn x = B_w_heldUpS f_w_markText f_w_heldByteS x.1 x.2.1 := by intro x; kernel_rfl
theorem S_w_heldUpS : Sound Try.prog 71 F_w_heldUpS := sm MO cfg_ok (tc Try.call126 S_w_markText (tc Try.call128 S_w_heldByteS tab_nil)) Try.func71 (by kernel_rfl) (by decide) (E_w_heldUpS P_w_markText P_w_heldByteS)
abbrev p_w_heldStore : List PK := [.val true (.pair (.pair (.rs 9 .str) (.rs 9 .str)) (.pair (.int .i64) (.pair (.int .i64) (.rs 56 kUp)))) false, .val false (.int .i64) false]
abbrev r_w_heldStore : List RK := [.val false (.int .i64)]
noncomputable def D_w_heldStore (f : Y_w_heldStore) : Nat × Fn := (22, ⟨p_w_heldStore, r_w_heldStore, fun x => f x.1 x.2.1⟩)
noncomputable def F_w_heldStore : Fn := (D_w_heldStore P_w_heldStore).2
theorem E_w_heldStore (f_w_heldDisk : Y_w_heldDisk) (f_w_heldUpS : Y_w_heldUpS) : ∀ x, (mkFn cfg [D_w_heldDisk f_w_heldDisk, D_w_heldUpS f_w_heldUpS] (lookN []) 18 [.tmp 4] (Try.f22.body.getD .skip) p_w_heldStore r_w_heldStore).fn x = B_w_heldStore f_w_heldDisk f_w_heldUpS x.1 x.2.1 := by intro x; kernel_rfl
theorem S_w_heldStore : Sound Try.prog 22 F_w_heldStore := sm MO cfg_ok (tc Try.call70 S_w_heldDisk (tc Try.call71 S_w_heldUpS tab_nil)) Try.func22 (by kernel_rfl) (by decide) (E_w_heldStore P_w_heldDisk P_w_heldUpS)
abbrev p_i_inRange : List PK := [.val false (.int .i64) false, .val false (.int .i64) false, .val false (.int .i64) false]
abbrev r_i_inRange : List RK := [.val false .bool]
noncomputable def D_i_inRange (f : Y_i_inRange) : Nat × Fn := (110, ⟨p_i_inRange, r_i_inRange, fun x => f x.1 x.2.1 x.2.2.1⟩)
noncomputable def F_i_inRange : Fn := (D_i_inRange P_i_inRange).2
theorem E_i_inRange : ∀ x, (mkFn cfg [] (lookN []) 15 [.tmp 6] (Try.f110.body.getD .skip) p_i_inRange r_i_inRange).fn x = B_i_inRange x.1 x.2.1 x.2.2.1 := by intro x; kernel_rfl
theorem S_i_inRange : Sound Try.prog 110 F_i_inRange := sm MO cfg_ok tab_nil Try.func110 (by kernel_rfl) (by decide) (E_i_inRange)
def A_i_GetBig : Nat → Option Jn := lookN [(3, ⟨[], lt 11 15 [], false⟩), (15, ⟨[.t 8 false [.int .i64]], lt 26 17 [.t 10], true⟩), (122, ⟨[.t 8 false [.int .i64], .t 33 false [.int .i64]], lt 34 9 [.t 10], false⟩)]
abbrev p_i_GetBig : List PK := [.val false (.rs 5 (.int .u8)) false, .val false (.int .i64) false, .val false (.int .i64) false]
abbrev r_i_GetBig : List RK := [.val false (.int .i64), .val false .bool]
noncomputable def D_i_GetBig (f : Y_i_GetBig) : Nat × Fn := (160, ⟨p_i_GetBig, r_i_GetBig, fun x => f x.1 x.2.1 x.2.2.1⟩)
noncomputable def F_i_GetBig : Fn := (D_i_GetBig P_i_GetBig).2
theorem E_i_GetBig (f_i_inRange : Y_i_inRange) : ∀ x, (mkFn cfg [D_i_inRange f_i_inRange] A_i_GetBig 44 [.tmp 6, .tmp 7] (Try.f160.body.getD .skip) p_i_GetBig r_i_GetBig).fn x = B_i_GetBig f_i_inRange x.1 x.2.1 x.2.2.1 := by intro x; kernel_rfl
theorem S_i_GetBig : Sound Try.prog 160 F_i_GetBig := sm MO cfg_ok (tc Try.call110 S_i_inRange tab_nil) Try.func160 (by kernel_rfl) (by decide) (E_i_GetBig P_i_inRange)
def A_i_byteReader_number : Nat → Option Jn := lookN [(7, ⟨[], lt 20 8 [], false⟩)]
abbrev p_i_byteReader_number : List PK := [.ptr kByteReader, .val false (.int .i64) false]
abbrev r_i_byteReader_number : List RK := [.val false (.int .i64)]
noncomputable def D_i_byteReader_number (f : Y_i_byteReader_number) : Nat × Fn := (140, ⟨p_i_byteReader_number, r_i_byteReader_number, fun x => f x.1 x.2.1⟩)
noncomputable def F_i_byteReader_number : Fn := (D_i_byteReader_number P_i_byteReader_number).2
theorem E_i_byteReader_number (f_i_GetBig : Y_i_GetBig) : ∀ x, (mkFn cfg [D_i_GetBig f_i_GetBig] A_i_byteReader_number 40 [.tmp 4] (Try.f140.body.getD .skip) p_i_byteReader_number r_i_byteReader_number).fn x = B_i_byteReader_number f_i_GetBig x.1 x.2.1 := by intro x; kernel_rfl
theorem S_i_byteReader_number : Sound Try.prog 140 F_i_byteReader_number := sm MO cfg_ok (tc Try.call160 S_i_GetBig tab_nil) Try.func140 (by kernel_rfl) (by decide) (E_i_byteReader_number P_i_GetBig)
abbrev p_slices_Clone_byte_byte : List PK := [.val false (.rs 5 (.int .u8)) false]
abbrev r_slices_Clone_byte_byte : List RK := [.val false (.sl 5 (.int .u8))]
noncomputable def D_slices_Clone_byte_byte (f : Y_slices_Clone_byte_byte) : Nat × Fn := (132, ⟨p_slices_Clone_byte_byte, r_slices_Clone_byte_byte, fun x => f x.1⟩)
noncomputable def F_slices_Clone_byte_byte : Fn := (D_slices_Clone_byte_byte P_slices_Clone_byte_byte).2
theorem E_slices_Clone_byte_byte : ∀ x, (mkFn cfg [] (lookN []) 8 [.tmp 2] (Try.f132.body.getD .skip) p_slices_Clone_byte_byte r_slices_Clone_byte_byte).fn x = B_slices_Clone_byte_byte x.1 := by intro x; kernel_rfl
theorem S_slices_Clone_byte_byte : Sound Try.prog 132 F_slices_Clone_byte_byte := sm MO cfg_ok tab_nil Try.func132 (by kernel_rfl) (by decide) (E_slices_Clone_byte_byte)
def A_i_byteReader_take : Nat → Option Jn := lookN [(3, ⟨[], lt 5 18 [], false⟩)]
abbrev p_i_byteReader_take : List PK := [.ptr kByteReader, .val false (.int .i64) false]
abbrev r_i_byteReader_take : List RK := [.val false (.sl 5 (.int .u8))]
noncomputable def D_i_byteReader_take (f : Y_i_byteReader_take) : Nat × Fn := (141, ⟨p_i_byteReader_take, r_i_byteReader_take, fun x => f x.1 x.2.1⟩)
noncomputable def F_i_byteReader_take : Fn := (D_i_byteReader_take P_i_byteReader_take).2
theorem E_i_byteReader_take (f_slices_Clone_byte_byte : Y_slices_Clone_byte_byte) : ∀ x, (mkFn cfg [D_slices_Clone_byte_byte f_slices_Clone_byte_byte] A_i_byteReader_take 50 [.tmp 4] (Try.f141.body.getD .skip) p_i_byteReader_take r_i_byteReader_take).fn x = B_i_byteReader_take f_slices_Clone_byte_byte x.1 x.2.1 := by intro x; kernel_rfl
theorem S_i_byteReader_take : Sound Try.prog 141 F_i_byteReader_take := sm MO cfg_ok (tc Try.call132 S_slices_Clone_byte_byte tab_nil) Try.func141 (by kernel_rfl) (by decide) (E_i_byteReader_take P_slices_Clone_byte_byte)
abbrev p_i_isEpoch : List PK := [.val false (.int .i64) false]
abbrev r_i_isEpoch : List RK := [.val false .bool]
noncomputable def D_i_isEpoch (f : Y_i_isEpoch) : Nat × Fn := (83, ⟨p_i_isEpoch, r_i_isEpoch, fun x => f x.1⟩)
noncomputable def F_i_isEpoch : Fn := (D_i_isEpoch P_i_isEpoch).2
theorem E_i_isEpoch (f_i_inRange : Y_i_inRange) : ∀ x, (mkFn cfg [D_i_inRange f_i_inRange] (lookN []) 5 [.tmp 2] (Try.f83.body.getD .skip) p_i_isEpoch r_i_isEpoch).fn x = B_i_isEpoch f_i_inRange x.1 := by intro x; kernel_rfl
theorem S_i_isEpoch : Sound Try.prog 83 F_i_isEpoch := sm MO cfg_ok (tc Try.call110 S_i_inRange tab_nil) Try.func83 (by kernel_rfl) (by decide) (E_i_isEpoch P_i_inRange)
def A_i_idOk : Nat → Option Jn := lookN [(3, ⟨[], lt 3 30 [], false⟩), (26, ⟨[.t 3 false [.int .i64]], lt 4 29 [], false⟩)]
abbrev p_i_idOk : List PK := [.val false .str false]
abbrev r_i_idOk : List RK := [.val false .bool]
noncomputable def D_i_idOk (f : Y_i_idOk) : Nat × Fn := (119, ⟨p_i_idOk, r_i_idOk, fun x => f x.1⟩)
noncomputable def F_i_idOk : Fn := (D_i_idOk P_i_idOk).2
theorem E_i_idOk (f_i_inRange : Y_i_inRange) : ∀ x, (mkFn cfg [D_i_inRange f_i_inRange] A_i_idOk 36 [.tmp 2] (Try.f119.body.getD .skip) p_i_idOk r_i_idOk).fn x = B_i_idOk f_i_inRange x.1 := by intro x; kernel_rfl
theorem S_i_idOk : Sound Try.prog 119 F_i_idOk := sm MO cfg_ok (tc Try.call110 S_i_inRange tab_nil) Try.func119 (by kernel_rfl) (by decide) (E_i_idOk P_i_inRange)
def A_i_RecOk : Nat → Option Jn := lookN [(3, ⟨[], lt 3 22 [], false⟩)]
abbrev p_i_RecOk : List PK := [.val true (.pair (.int .i64) (.pair (.int .i64) (.pair (.int .i64) (.pair .str (.pair (.int .i64) (.rs 5 (.int .u8))))))) false]
abbrev r_i_RecOk : List RK := [.val false .bool]
noncomputable def D_i_RecOk (f : Y_i_RecOk) : Nat × Fn := (142, ⟨p_i_RecOk, r_i_RecOk, fun x => f x.1⟩)
noncomputable def F_i_RecOk : Fn := (D_i_RecOk P_i_RecOk).2
theorem E_i_RecOk (f_i_isEpoch : Y_i_isEpoch) (f_i_inRange : Y_i_inRange) (f_i_idOk : Y_i_idOk) : ∀ x, (mkFn cfg [D_i_isEpoch f_i_isEpoch, D_i_inRange f_i_inRange, D_i_idOk f_i_idOk] A_i_RecOk 58 [.tmp 2] (Try.f142.body.getD .skip) p_i_RecOk r_i_RecOk).fn x = B_i_RecOk f_i_isEpoch f_i_inRange f_i_idOk x.1 := by intro x; kernel_rfl
theorem S_i_RecOk : Sound Try.prog 142 F_i_RecOk := sm MO cfg_ok (tc Try.call83 S_i_isEpoch (tc Try.call110 S_i_inRange (tc Try.call119 S_i_idOk tab_nil))) Try.func142 (by kernel_rfl) (by decide) (E_i_RecOk P_i_isEpoch P_i_inRange P_i_idOk)
def A_i_Crc : Nat → Option Jn := lookN [(7, ⟨[.t 3 false [.int .u32]], lt 5 24 [], true⟩), (58, ⟨[.t 3 false [.int .u32], .t 9 false [.int .i64]], lt 10 19 [.t 5, .t 6], false⟩), (29902, ⟨[.t 3 false [.int .u32], .t 17 false [.int .i64]], lt 18 10 [.t 6], false⟩)]
abbrev p_i_Crc : List PK := [.val false (.rs 5 (.int .u8)) false]
abbrev r_i_Crc : List RK := [.val false (.int .i64)]
noncomputable def D_i_Crc (f : Y_i_Crc) : Nat × Fn := (42, ⟨p_i_Crc, r_i_Crc, fun x => f x.1⟩)
noncomputable def F_i_Crc : Fn := (D_i_Crc P_i_Crc).2
theorem E_i_Crc : ∀ x, (mkFn cfg [] A_i_Crc 32 [.tmp 2] (Try.f42.body.getD .skip) p_i_Crc r_i_Crc).fn x = B_i_Crc x.1 := by intro x; kernel_rfl
theorem S_i_Crc : Sound Try.prog 42 F_i_Crc := sm MO cfg_ok tab_nil Try.func42 (by kernel_rfl) (by decide) (E_i_Crc)
def A_i_putBig : Nat → Option Jn := lookN [(58, ⟨[.t 0 false [.own 100000000], .t 7 false [.int .i64], .r 100000000 5 (.int .u8)], lt 12 13 [.r 23, .r 24, .r 1000], false⟩)]
abbrev p_i_putBig : List PK := [.val false (.sl 5 (.int .u8)) false, .val false (.int .i64) false, .val false (.int .i64) false]
abbrev r_i_putBig : List RK := [.val false (.sl 5 (.int .u8))]
noncomputable def D_i_putBig (f : Y_i_putBig) : Nat × Fn := (161, ⟨p_i_putBig, r_i_putBig, fun x => f x.1 x.2.1 x.2.2.1⟩)
noncomputable def F_i_putBig : Fn := (D_i_putBig P_i_putBig).2
theorem E_i_putBig : ∀ x, (mkFn cfg [] A_i_putBig 26 [.tmp 6] (Try.f161.body.getD .skip) p_i_putBig r_i_putBig).fn x = B_i_putBig x.1 x.2.1 x.2.2.1 := by intro x; kernel_rfl
theorem S_i_putBig : Sound Try.prog 161 F_i_putBig := sm MO cfg_ok tab_nil Try.func161 (by kernel_rfl) (by decide) (E_i_putBig)
abbrev p_i_PutRec : List PK := [.val true (.pair (.int .i64) (.pair (.int .i64) (.pair (.int .i64) (.pair .str (.pair (.int .i64) (.rs 5 (.int .u8))))))) false]
abbrev r_i_PutRec : List RK := [.val false .str]
noncomputable def D_i_PutRec (f : Y_i_PutRec) : Nat × Fn := (143, ⟨p_i_PutRec, r_i_PutRec, fun x => f x.1⟩)
noncomputable def F_i_PutRec : Fn := (D_i_PutRec P_i_PutRec).2
theorem E_i_PutRec (f_i_Crc : Y_i_Crc) (f_i_RecOk : Y_i_RecOk) (f_i_putBig : Y_i_putBig) : ∀ x, (mkFn cfg [D_i_Crc f_i_Crc, D_i_RecOk f_i_RecOk, D_i_putBig f_i_putBig] (lookN []) 45 [.tmp 2] (Try.f143.body.getD .skip) p_i_PutRec r_i_PutRec).fn x = B_i_PutRec f_i_Crc f_i_RecOk f_i_putBig x.1 := by intro x; kernel_rfl
theorem S_i_PutRec : Sound Try.prog 143 F_i_PutRec := sm MO cfg_ok (tc Try.call42 S_i_Crc (tc Try.call142 S_i_RecOk (tc Try.call161 S_i_putBig tab_nil))) Try.func143 (by kernel_rfl) (by decide) (E_i_PutRec P_i_Crc P_i_RecOk P_i_putBig)
abbrev p_i_GetRec : List PK := [.val false .str false]
abbrev r_i_GetRec : List RK := [.val true kRec, .val false .bool]
noncomputable def D_i_GetRec (f : Y_i_GetRec) : Nat × Fn := (103, ⟨p_i_GetRec, r_i_GetRec, fun x => f x.1⟩)
noncomputable def F_i_GetRec : Fn := (D_i_GetRec P_i_GetRec).2
theorem E_i_GetRec (f_i_byteReader_number : Y_i_byteReader_number) (f_i_byteReader_take : Y_i_byteReader_take) (f_i_RecOk : Y_i_RecOk) (f_i_PutRec : Y_i_PutRec) : ∀ x, (mkFn cfg [D_i_byteReader_number f_i_byteReader_number, D_i_byteReader_take f_i_byteReader_take, D_i_RecOk f_i_RecOk, D_i_PutRec f_i_PutRec] (lookN []) 42 [.cell 2 97, .tmp 3] (Try.f103.body.getD .skip) p_i_GetRec r_i_GetRec).fn x = B_i_GetRec f_i_byteReader_number f_i_byteReader_take f_i_RecOk f_i_PutRec x.1 := by intro x; kernel_rfl
theorem S_i_GetRec : Sound Try.prog 103 F_i_GetRec := sm MO cfg_ok (tc Try.call140 S_i_byteReader_number (tc Try.call141 S_i_byteReader_take (tc Try.call142 S_i_RecOk (tc Try.call143 S_i_PutRec tab_nil)))) Try.func103 (by kernel_rfl) (by decide) (E_i_GetRec P_i_byteReader_number P_i_byteReader_take P_i_RecOk P_i_PutRec)
def A_i_ScanRecs : Nat → Option Jn := lookN [(122, ⟨[.t 3 false [.own 100000000], .t 4 false [.int .i64], .t 12 false [.int .i64], .r 100000000 97 kRec], lt 13 30 (lt 5 4 [.b 7, .r 38, .r 39, .r 81925]), false⟩)]
abbrev p_i_ScanRecs : List PK := [.val true (.pair (.rs 9 .str) (.rs 9 .str)) false]
abbrev r_i_ScanRecs : List RK := [.val false (.sl 97 kRec)]
noncomputable def D_i_ScanRecs (f : Y_i_ScanRecs) : Nat × Fn := (37, ⟨p_i_ScanRecs, r_i_ScanRecs, fun x => f x.1⟩)
noncomputable def F_i_ScanRecs : Fn := (D_i_ScanRecs P_i_ScanRecs).2
theorem E_i_ScanRecs (f_i_GetRec : Y_i_GetRec) : ∀ x, (mkFn cfg [D_i_GetRec f_i_GetRec] A_i_ScanRecs 44 [.tmp 2] (Try.f37.body.getD .skip) p_i_ScanRecs r_i_ScanRecs).fn x = B_i_ScanRecs f_i_GetRec x.1 := by intro x; kernel_rfl
theorem S_i_ScanRecs : Sound Try.prog 37 F_i_ScanRecs := sm MO cfg_ok (tc Try.call103 S_i_GetRec tab_nil) Try.func37 (by kernel_rfl) (by decide) (E_i_ScanRecs P_i_GetRec)
def A_i_DiskOk : Nat → Option Jn := lookN [(3, ⟨[], lt 4 13 [], false⟩), (58, ⟨[.t 20 false [.int .i64]], lt 21 19 [.t 3], false⟩)]
abbrev p_i_DiskOk : List PK := [.val true (.pair (.rs 9 .str) (.rs 9 .str)) false]
abbrev r_i_DiskOk : List RK := [.val false .bool]
noncomputable def D_i_DiskOk (f : Y_i_DiskOk) : Nat × Fn := (84, ⟨p_i_DiskOk, r_i_DiskOk, fun x => f x.1⟩)
noncomputable def F_i_DiskOk : Fn := (D_i_DiskOk P_i_DiskOk).2
theorem E_i_DiskOk : ∀ x, (mkFn cfg [] A_i_DiskOk 40 [.tmp 2] (Try.f84.body.getD .skip) p_i_DiskOk r_i_DiskOk).fn x = B_i_DiskOk x.1 := by intro x; kernel_rfl
theorem S_i_DiskOk : Sound Try.prog 84 F_i_DiskOk := sm MO cfg_ok tab_nil Try.func84 (by kernel_rfl) (by decide) (E_i_DiskOk)
def A_i_upAt : Nat → Option Jn := lookN [(7, ⟨[.t 6 false [.int .i64]], lt 7 15 [], true⟩), (28, ⟨[.t 6 false [.int .i64]], lt 7 15 [], false⟩)]
abbrev p_i_upAt : List PK := [.val false (.rs 56 kUp) false, .val false .str false]
abbrev r_i_upAt : List RK := [.val false (.int .i64), .val false .bool]
noncomputable def D_i_upAt (f : Y_i_upAt) : Nat × Fn := (152, ⟨p_i_upAt, r_i_upAt, fun x => f x.1 x.2.1⟩)
noncomputable def F_i_upAt : Fn := (D_i_upAt P_i_upAt).2
theorem E_i_upAt : ∀ x, (mkFn cfg [] A_i_upAt 36 [.tmp 4, .tmp 5] (Try.f152.body.getD .skip) p_i_upAt r_i_upAt).fn x = B_i_upAt x.1 x.2.1 := by intro x; kernel_rfl
theorem S_i_upAt : Sound Try.prog 152 F_i_upAt := sm MO cfg_ok tab_nil Try.func152 (by kernel_rfl) (by decide) (E_i_upAt)
def A_i_fold : Nat → Option Jn := lookN [(58, ⟨[], lt 19 6 [], false⟩), (2026, ⟨[], lt 43 30 [], false⟩)]
abbrev p_i_fold : List PK := [.val false (.sl 56 kUp) false, .val true (.pair (.int .i64) (.pair (.int .i64) (.pair (.int .i64) (.pair .str (.pair (.int .i64) (.rs 5 (.int .u8))))))) false]
abbrev r_i_fold : List RK := [.val false (.sl 56 kUp), .val false .bool]
noncomputable def D_i_fold (f : Y_i_fold) : Nat × Fn := (133, ⟨p_i_fold, r_i_fold, fun x => f x.1 x.2.1⟩)
noncomputable def F_i_fold : Fn := (D_i_fold P_i_fold).2
theorem E_i_fold (f_i_upAt : Y_i_upAt) (f_slices_Insert_impl_Up_impl_Up : Y_slices_Insert_impl_Up_impl_Up) (f_slices_Delete_impl_Up_impl_Up : Y_slices_Delete_impl_Up_impl_Up) : ∀ x, (mkFn cfg [D_i_upAt f_i_upAt, D_slices_Insert_impl_Up_impl_Up f_slices_Insert_impl_Up_impl_Up, D_slices_Delete_impl_Up_impl_Up f_slices_Delete_impl_Up_impl_Up] A_i_fold 113 [.tmp 4, .tmp 5] (Try.f133.body.getD .skip) p_i_fold r_i_fold).fn x = B_i_fold f_i_upAt f_slices_Insert_impl_Up_impl_Up f_slices_Delete_impl_Up_impl_Up x.1 x.2.1 := by intro x; kernel_rfl
theorem S_i_fold : Sound Try.prog 133 F_i_fold := sm MO cfg_ok (tc Try.call152 S_i_upAt (tc Try.call153 S_slices_Insert_impl_Up_impl_Up (tc Try.call154 S_slices_Delete_impl_Up_impl_Up tab_nil))) Try.func133 (by kernel_rfl) (by decide) (E_i_fold P_i_upAt P_slices_Insert_impl_Up_impl_Up P_slices_Delete_impl_Up_impl_Up)
def A_i_FoldRecs : Nat → Option Jn := lookN [(7, ⟨[.t 4 false [.own 100000000], .r 100000000 56 kUp], lt 6 19 [.b 6, .r 77824], false⟩), (58, ⟨[.t 4 false [.own 100000000], .t 11 false [.int .i64], .r 100000000 56 kUp], lt 12 13 (lt 6 3 [.b 6, .r 77824]), false⟩)]
abbrev p_i_FoldRecs : List PK := [.val false (.rs 97 kRec) false]
abbrev r_i_FoldRecs : List RK := [.val false (.sl 56 kUp), .val false .bool]
noncomputable def D_i_FoldRecs (f : Y_i_FoldRecs) : Nat × Fn := (85, ⟨p_i_FoldRecs, r_i_FoldRecs, fun x => f x.1⟩)
noncomputable def F_i_FoldRecs : Fn := (D_i_FoldRecs P_i_FoldRecs).2
theorem E_i_FoldRecs (f_i_fold : Y_i_fold) : ∀ x, (mkFn cfg [D_i_fold f_i_fold] A_i_FoldRecs 26 [.tmp 2, .tmp 3] (Try.f85.body.getD .skip) p_i_FoldRecs r_i_FoldRecs).fn x = B_i_FoldRecs f_i_fold x.1 := by intro x; kernel_rfl
theorem S_i_FoldRecs : Sound Try.prog 85 F_i_FoldRecs := sm MO cfg_ok (tc Try.call133 S_i_fold tab_nil) Try.func85 (by kernel_rfl) (by decide) (E_i_FoldRecs P_i_fold)
def A_i_topFrom : Nat → Option Jn := lookN [(58, ⟨[.t 3 false [.int .i64], .t 10 false [.int .i64]], lt 11 14 (lt 5 3 [.b 6, .r 69637]), false⟩)]
abbrev p_i_topFrom : List PK := [.val false (.rs 9 .str) false]
abbrev r_i_topFrom : List RK := [.val false (.int .i64)]
noncomputable def D_i_topFrom (f : Y_i_topFrom) : Nat × Fn := (88, ⟨p_i_topFrom, r_i_topFrom, fun x => f x.1⟩)
noncomputable def F_i_topFrom : Fn := (D_i_topFrom P_i_topFrom).2
theorem E_i_topFrom (f_i_GetRec : Y_i_GetRec) : ∀ x, (mkFn cfg [D_i_GetRec f_i_GetRec] A_i_topFrom 26 [.tmp 2] (Try.f88.body.getD .skip) p_i_topFrom r_i_topFrom).fn x = B_i_topFrom f_i_GetRec x.1 := by intro x; kernel_rfl
theorem S_i_topFrom : Sound Try.prog 88 F_i_topFrom := sm MO cfg_ok (tc Try.call103 S_i_GetRec tab_nil) Try.func88 (by kernel_rfl) (by decide) (E_i_topFrom P_i_GetRec)
abbrev p_bytes_Equal : List PK := [.val false (.rs 5 (.int .u8)) false, .val false (.rs 5 (.int .u8)) false]
abbrev r_bytes_Equal : List RK := [.val false .bool]
noncomputable def D_bytes_Equal (f : Y_bytes_Equal) : Nat × Fn := (134, ⟨p_bytes_Equal, r_bytes_Equal, fun x => f x.1 x.2.1⟩)
noncomputable def F_bytes_Equal : Fn := (D_bytes_Equal P_bytes_Equal).2
theorem E_bytes_Equal : ∀ x, (mkFn cfg [] (lookN []) 10 [.tmp 4] (Try.f134.body.getD .skip) p_bytes_Equal r_bytes_Equal).fn x = B_bytes_Equal x.1 x.2.1 := by intro x; kernel_rfl
theorem S_bytes_Equal : Sound Try.prog 134 F_bytes_Equal := sm MO cfg_ok tab_nil Try.func134 (by kernel_rfl) (by decide) (E_bytes_Equal)
abbrev p_i_sameUp : List PK := [.val true (.pair .str (.pair (.int .i64) (.pair (.rs 5 (.int .u8)) .bool))) false, .val true (.pair .str (.pair (.int .i64) (.pair (.rs 5 (.int .u8)) .bool))) false]
abbrev r_i_sameUp : List RK := [.val false .bool]
noncomputable def D_i_sameUp (f : Y_i_sameUp) : Nat × Fn := (87, ⟨p_i_sameUp, r_i_sameUp, fun x => f x.1 x.2.1⟩)
noncomputable def F_i_sameUp : Fn := (D_i_sameUp P_i_sameUp).2
theorem E_i_sameUp (f_bytes_Equal : Y_bytes_Equal) : ∀ x, (mkFn cfg [D_bytes_Equal f_bytes_Equal] (lookN []) 31 [.tmp 4] (Try.f87.body.getD .skip) p_i_sameUp r_i_sameUp).fn x = B_i_sameUp f_bytes_Equal x.1 x.2.1 := by intro x; kernel_rfl
theorem S_i_sameUp : Sound Try.prog 87 F_i_sameUp := sm MO cfg_ok (tc Try.call134 S_bytes_Equal tab_nil) Try.func87 (by kernel_rfl) (by decide) (E_i_sameUp P_bytes_Equal)
def A_slices_EqualFunc_impl_Up_impl_Up_impl_Up_impl_Up_r1002_87 : Nat → Option Jn := lookN [(58, ⟨[.t 17 false [.int .i64]], lt 18 14 (lt 7 3 [.b 8, .b 9]), false⟩)]
abbrev p_slices_EqualFunc_impl_Up_impl_Up_impl_Up_impl_Up_r1002_87 : List PK := [.val false (.rs 56 kUp) false, .val false (.rs 56 kUp) false, .val false (.fnc 87) false]
abbrev r_slices_EqualFunc_impl_Up_impl_Up_impl_Up_impl_Up_r1002_87 : List RK := [.val false .bool]
noncomputable def D_slices_EqualFunc_impl_Up_impl_Up_impl_Up_impl_Up_r1002_87 (f : Y_slices_EqualFunc_impl_Up_impl_Up_impl_Up_impl_Up_r1002_87) : Nat × Fn := (86, ⟨p_slices_EqualFunc_impl_Up_impl_Up_impl_Up_impl_Up_r1002_87, r_slices_EqualFunc_impl_Up_impl_Up_impl_Up_impl_Up_r1002_87, fun x => f x.1 x.2.1 x.2.2.1⟩)
noncomputable def F_slices_EqualFunc_impl_Up_impl_Up_impl_Up_impl_Up_r1002_87 : Fn := (D_slices_EqualFunc_impl_Up_impl_Up_impl_Up_impl_Up_r1002_87 P_slices_EqualFunc_impl_Up_impl_Up_impl_Up_impl_Up_r1002_87).2
theorem E_slices_EqualFunc_impl_Up_impl_Up_impl_Up_impl_Up_r1002_87 (f_i_sameUp : Y_i_sameUp) : ∀ x, (mkFn cfg [D_i_sameUp f_i_sameUp] A_slices_EqualFunc_impl_Up_impl_Up_impl_Up_impl_Up_r1002_87 32 [.tmp 6] (Try.f86.body.getD .skip) p_slices_EqualFunc_impl_Up_impl_Up_impl_Up_impl_Up_r1002_87 r_slices_EqualFunc_impl_Up_impl_Up_impl_Up_impl_Up_r1002_87).fn x = B_slices_EqualFunc_impl_Up_impl_Up_impl_Up_impl_Up_r1002_87 f_i_sameUp x.1 x.2.1 x.2.2.1 := by intro x; kernel_rfl
theorem S_slices_EqualFunc_impl_Up_impl_Up_impl_Up_impl_Up_r1002_87 : Sound Try.prog 86 F_slices_EqualFunc_impl_Up_impl_Up_impl_Up_impl_Up_r1002_87 := sm MO cfg_ok (tc Try.call87 S_i_sameUp tab_nil) Try.func86 (by kernel_rfl) (by decide) (E_slices_EqualFunc_impl_Up_impl_Up_impl_Up_impl_Up_r1002_87 P_i_sameUp)
def A_i_StoreOk : Nat → Option Jn := lookN [(3, ⟨[], lt 6 10 [], false⟩), (31, ⟨[], lt 24 16 [], false⟩), (63, ⟨[], lt 40 15 [.x 50], false⟩)]
abbrev p_i_StoreOk : List PK := [.val true (.pair (.pair (.rs 9 .str) (.rs 9 .str)) (.pair (.int .i64) (.pair (.int .i64) (.rs 56 kUp)))) false]
abbrev r_i_StoreOk : List RK := [.val false .bool]
noncomputable def D_i_StoreOk (f : Y_i_StoreOk) : Nat × Fn := (28, ⟨p_i_StoreOk, r_i_StoreOk, fun x => f x.1⟩)
noncomputable def F_i_StoreOk : Fn := (D_i_StoreOk P_i_StoreOk).2
theorem E_i_StoreOk (f_i_ScanRecs : Y_i_ScanRecs) (f_i_isEpoch : Y_i_isEpoch) (f_i_DiskOk : Y_i_DiskOk) (f_i_FoldRecs : Y_i_FoldRecs) (f_slices_EqualFunc_impl_Up_impl_Up_impl_Up_impl_Up_r1002_87 : Y_slices_EqualFunc_impl_Up_impl_Up_impl_Up_impl_Up_r1002_87) (f_i_topFrom : Y_i_topFrom) : ∀ x, (mkFn cfg [D_i_ScanRecs f_i_ScanRecs, D_i_isEpoch f_i_isEpoch, D_i_DiskOk f_i_DiskOk, D_i_FoldRecs f_i_FoldRecs, D_slices_EqualFunc_impl_Up_impl_Up_impl_Up_impl_Up_r1002_87 f_slices_EqualFunc_impl_Up_impl_Up_impl_Up_impl_Up_r1002_87, D_i_topFrom f_i_topFrom] A_i_StoreOk 65 [.tmp 2] (Try.f28.body.getD .skip) p_i_StoreOk r_i_StoreOk).fn x = B_i_StoreOk f_i_ScanRecs f_i_isEpoch f_i_DiskOk f_i_FoldRecs f_slices_EqualFunc_impl_Up_impl_Up_impl_Up_impl_Up_r1002_87 f_i_topFrom x.1 := by intro x; kernel_rfl
theorem S_i_StoreOk : Sound Try.prog 28 F_i_StoreOk := sm MO cfg_ok (tc Try.call37 S_i_ScanRecs (tc Try.call83 S_i_isEpoch (tc Try.call84 S_i_DiskOk (tc Try.call85 S_i_FoldRecs (tc Try.call86 S_slices_EqualFunc_impl_Up_impl_Up_impl_Up_impl_Up_r1002_87 (tc Try.call88 S_i_topFrom tab_nil)))))) Try.func28 (by kernel_rfl) (by decide) (E_i_StoreOk P_i_ScanRecs P_i_isEpoch P_i_DiskOk P_i_FoldRecs P_slices_EqualFunc_impl_Up_impl_Up_impl_Up_impl_Up_r1002_87 P_i_topFrom)
abbrev p_i_copyUp : List PK := [.val true (.pair .str (.pair (.int .i64) (.pair (.rs 5 (.int .u8)) .bool))) false]
abbrev r_i_copyUp : List RK := [.val true kUp]
noncomputable def D_i_copyUp (f : Y_i_copyUp) : Nat × Fn := (81, ⟨p_i_copyUp, r_i_copyUp, fun x => f x.1⟩)
noncomputable def F_i_copyUp : Fn := (D_i_copyUp P_i_copyUp).2
theorem E_i_copyUp (f_slices_Clone_byte_byte : Y_slices_Clone_byte_byte) : ∀ x, (mkFn cfg [D_slices_Clone_byte_byte f_slices_Clone_byte_byte] (lookN []) 8 [.cell 2 56] (Try.f81.body.getD .skip) p_i_copyUp r_i_copyUp).fn x = B_i_copyUp f_slices_Clone_byte_byte x.1 := by intro x; kernel_rfl
theorem S_i_copyUp : Sound Try.prog 81 F_i_copyUp := sm MO cfg_ok (tc Try.call132 S_slices_Clone_byte_byte tab_nil) Try.func81 (by kernel_rfl) (by decide) (E_i_copyUp P_slices_Clone_byte_byte)
abbrev p_slices_Clone_string_string : List PK := [.val false (.rs 9 .str) false]
abbrev r_slices_Clone_string_string : List RK := [.val false (.sl 9 .str)]
noncomputable def D_slices_Clone_string_string (f : Y_slices_Clone_string_string) : Nat × Fn := (139, ⟨p_slices_Clone_string_string, r_slices_Clone_string_string, fun x => f x.1⟩)
noncomputable def F_slices_Clone_string_string : Fn := (D_slices_Clone_string_string P_slices_Clone_string_string).2
theorem E_slices_Clone_string_string : ∀ x, (mkFn cfg [] (lookN []) 8 [.tmp 2] (Try.f139.body.getD .skip) p_slices_Clone_string_string r_slices_Clone_string_string).fn x = B_slices_Clone_string_string x.1 := by intro x; kernel_rfl
theorem S_slices_Clone_string_string : Sound Try.prog 139 F_slices_Clone_string_string := sm MO cfg_ok tab_nil Try.func139 (by kernel_rfl) (by decide) (E_slices_Clone_string_string)
abbrev p_i_copyDisk : List PK := [.val true (.pair (.rs 9 .str) (.rs 9 .str)) false]
abbrev r_i_copyDisk : List RK := [.val true kDisk]
noncomputable def D_i_copyDisk (f : Y_i_copyDisk) : Nat × Fn := (96, ⟨p_i_copyDisk, r_i_copyDisk, fun x => f x.1⟩)
noncomputable def F_i_copyDisk : Fn := (D_i_copyDisk P_i_copyDisk).2
theorem E_i_copyDisk (f_slices_Clone_string_string : Y_slices_Clone_string_string) : ∀ x, (mkFn cfg [D_slices_Clone_string_string f_slices_Clone_string_string] (lookN []) 10 [.cell 2 33] (Try.f96.body.getD .skip) p_i_copyDisk r_i_copyDisk).fn x = B_i_copyDisk f_slices_Clone_string_string x.1 := by intro x; kernel_rfl
theorem S_i_copyDisk : Sound Try.prog 96 F_i_copyDisk := sm MO cfg_ok (tc Try.call139 S_slices_Clone_string_string tab_nil) Try.func96 (by kernel_rfl) (by decide) (E_i_copyDisk P_slices_Clone_string_string)
def A_i_copyStore : Nat → Option Jn := lookN [(58, ⟨[.t 17 false [.int .i64], .b 3 [.own 36864, .own 36865, .int .i64, .int .i64, .own 100000000], .r 36864 9 .str, .r 36865 9 .str, .r 100000000 56 kUp], lt 18 11 [.b 5, .r 25, .r 26, .r 102402, .t 5], false⟩)]
abbrev p_i_copyStore : List PK := [.val true (.pair (.pair (.rs 9 .str) (.rs 9 .str)) (.pair (.int .i64) (.pair (.int .i64) (.rs 56 kUp)))) false]
abbrev r_i_copyStore : List RK := [.val true kStore]
noncomputable def D_i_copyStore (f : Y_i_copyStore) : Nat × Fn := (64, ⟨p_i_copyStore, r_i_copyStore, fun x => f x.1⟩)
noncomputable def F_i_copyStore : Fn := (D_i_copyStore P_i_copyStore).2
theorem E_i_copyStore (f_i_copyUp : Y_i_copyUp) (f_i_copyDisk : Y_i_copyDisk) : ∀ x, (mkFn cfg [D_i_copyUp f_i_copyUp, D_i_copyDisk f_i_copyDisk] A_i_copyStore 30 [.cell 2 36] (Try.f64.body.getD .skip) p_i_copyStore r_i_copyStore).fn x = B_i_copyStore f_i_copyUp f_i_copyDisk x.1 := by intro x; kernel_rfl
theorem S_i_copyStore : Sound Try.prog 64 F_i_copyStore := sm MO cfg_ok (tc Try.call81 S_i_copyUp (tc Try.call96 S_i_copyDisk tab_nil)) Try.func64 (by kernel_rfl) (by decide) (E_i_copyStore P_i_copyUp P_i_copyDisk)
abbrev p_i_Store_left : List PK := [.ptr kStore]
abbrev r_i_Store_left : List RK := [.val false (.int .i64)]
noncomputable def D_i_Store_left (f : Y_i_Store_left) : Nat × Fn := (121, ⟨p_i_Store_left, r_i_Store_left, fun x => f x.1⟩)
noncomputable def F_i_Store_left : Fn := (D_i_Store_left P_i_Store_left).2
theorem E_i_Store_left : ∀ x, (mkFn cfg [] (lookN []) 14 [.tmp 2] (Try.f121.body.getD .skip) p_i_Store_left r_i_Store_left).fn x = B_i_Store_left x.1 := by intro x; kernel_rfl
theorem S_i_Store_left : Sound Try.prog 121 F_i_Store_left := sm MO cfg_ok tab_nil Try.func121 (by kernel_rfl) (by decide) (E_i_Store_left)
abbrev p_i_Store_write_r97_0 : List PK := [.ptr kStore, .val false (.int .i64) false, .val false .str false, .val false (.int .i64) false, .val false (.rs 5 (.int .u8)) false]
abbrev r_i_Store_write_r97_0 : List RK := []
noncomputable def D_i_Store_write_r97_0 (f : Y_i_Store_write_r97_0) : Nat × Fn := (122, ⟨p_i_Store_write_r97_0, r_i_Store_write_r97_0, fun x => f x.1 x.2.1 x.2.2.1 x.2.2.2.1 x.2.2.2.2.1⟩)
noncomputable def F_i_Store_write_r97_0 : Fn := (D_i_Store_write_r97_0 P_i_Store_write_r97_0).2
theorem E_i_Store_write_r97_0 (f_i_fold : Y_i_fold) (f_i_PutRec : Y_i_PutRec) : ∀ x, (mkFn cfg [D_i_fold f_i_fold, D_i_PutRec f_i_PutRec] (lookN []) 59 [] (Try.f122.body.getD .skip) p_i_Store_write_r97_0 r_i_Store_write_r97_0).fn x = B_i_Store_write_r97_0 f_i_fold f_i_PutRec x.1 x.2.1 x.2.2.1 x.2.2.2.1 x.2.2.2.2.1 := by intro x; kernel_rfl
theorem S_i_Store_write_r97_0 : Sound Try.prog 122 F_i_Store_write_r97_0 := sm MO cfg_ok (tc Try.call133 S_i_fold (tc Try.call143 S_i_PutRec tab_nil)) Try.func122 (by kernel_rfl) (by decide) (E_i_Store_write_r97_0 P_i_fold P_i_PutRec)
end Go.Proofs.Ytehbegmomfcmhaa.Ev
