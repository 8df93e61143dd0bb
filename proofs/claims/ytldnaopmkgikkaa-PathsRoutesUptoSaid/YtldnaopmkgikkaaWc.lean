/- A walk engine over abstract states, and the contracts of the functions that the statement reaches: part 3. -/
import Derived.Test.YtldnaopmkgikkaaWb
import Derived.Test.YtldnaopmkgikkaaProg
set_option linter.unusedVariables false
set_option linter.unusedSimpArgs false
/- The program's type table, as the engine asks for it. -/
namespace Go.Ab
open Go.RowKit Go.Proofs

theorem tab_tsz_0 : tsz Try.prog 0 = (some 1) := by kernel_rfl
attribute [go_sem] tab_tsz_0
theorem tab_tbytes_0 : tbytes Try.prog 0 = (some 0) := by kernel_rfl
attribute [go_sem] tab_tbytes_0
theorem tab_tagg_0 : tagg Try.prog 0 = (some false) := by kernel_rfl
attribute [go_sem] tab_tagg_0
theorem tab_tsz_1 : tsz Try.prog 1 = (some 1) := by kernel_rfl
attribute [go_sem] tab_tsz_1
theorem tab_tbytes_1 : tbytes Try.prog 1 = (some 8) := by kernel_rfl
attribute [go_sem] tab_tbytes_1
theorem tab_tagg_1 : tagg Try.prog 1 = (some false) := by kernel_rfl
attribute [go_sem] tab_tagg_1
theorem tab_tsz_2 : tsz Try.prog 2 = (some 1) := by kernel_rfl
attribute [go_sem] tab_tsz_2
theorem tab_tbytes_2 : tbytes Try.prog 2 = (some 8) := by kernel_rfl
attribute [go_sem] tab_tbytes_2
theorem tab_tagg_2 : tagg Try.prog 2 = (some false) := by kernel_rfl
attribute [go_sem] tab_tagg_2
theorem tab_tint_2 : tint Try.prog 2 = (some IntKind.i64) := by kernel_rfl
attribute [go_sem] tab_tint_2
theorem tab_tsz_3 : tsz Try.prog 3 = (some 1) := by kernel_rfl
attribute [go_sem] tab_tsz_3
theorem tab_tbytes_3 : tbytes Try.prog 3 = (some 8) := by kernel_rfl
attribute [go_sem] tab_tbytes_3
theorem tab_tagg_3 : tagg Try.prog 3 = (some false) := by kernel_rfl
attribute [go_sem] tab_tagg_3
theorem tab_tint_3 : tint Try.prog 3 = (some IntKind.i64) := by kernel_rfl
attribute [go_sem] tab_tint_3
theorem tab_tsz_4 : tsz Try.prog 4 = (some 1) := by kernel_rfl
attribute [go_sem] tab_tsz_4
theorem tab_tbytes_4 : tbytes Try.prog 4 = (some 1) := by kernel_rfl
attribute [go_sem] tab_tbytes_4
theorem tab_tagg_4 : tagg Try.prog 4 = (some false) := by kernel_rfl
attribute [go_sem] tab_tagg_4
theorem tab_tsz_5 : tsz Try.prog 5 = (some 1) := by kernel_rfl
attribute [go_sem] tab_tsz_5
theorem tab_tbytes_5 : tbytes Try.prog 5 = (some 1) := by kernel_rfl
attribute [go_sem] tab_tbytes_5
theorem tab_tagg_5 : tagg Try.prog 5 = (some false) := by kernel_rfl
attribute [go_sem] tab_tagg_5
theorem tab_tint_5 : tint Try.prog 5 = (some IntKind.u8) := by kernel_rfl
attribute [go_sem] tab_tint_5
theorem tab_tsz_6 : tsz Try.prog 6 = (some 1) := by kernel_rfl
attribute [go_sem] tab_tsz_6
theorem tab_tbytes_6 : tbytes Try.prog 6 = (some 1) := by kernel_rfl
attribute [go_sem] tab_tbytes_6
theorem tab_tagg_6 : tagg Try.prog 6 = (some false) := by kernel_rfl
attribute [go_sem] tab_tagg_6
theorem tab_tint_6 : tint Try.prog 6 = (some IntKind.u8) := by kernel_rfl
attribute [go_sem] tab_tint_6
theorem tab_tsz_7 : tsz Try.prog 7 = (some 4) := by kernel_rfl
attribute [go_sem] tab_tsz_7
theorem tab_tbytes_7 : tbytes Try.prog 7 = (some 24) := by kernel_rfl
attribute [go_sem] tab_tbytes_7
theorem tab_tagg_7 : tagg Try.prog 7 = (some true) := by kernel_rfl
attribute [go_sem] tab_tagg_7
theorem tab_tfields_7 : tfields Try.prog 7 = (some [(0, (1, false)), (1, (1, false)), (2, (1, false)), (3, (1, false))]) := by kernel_rfl
attribute [go_sem] tab_tfields_7
theorem tab_teq_7 : teq Try.prog 7 = (some [(0, false), (1, false), (2, true), (3, false)]) := by kernel_rfl
attribute [go_sem] tab_teq_7
theorem tab_tsz_8 : tsz Try.prog 8 = (some 4) := by kernel_rfl
attribute [go_sem] tab_tsz_8
theorem tab_tbytes_8 : tbytes Try.prog 8 = (some 24) := by kernel_rfl
attribute [go_sem] tab_tbytes_8
theorem tab_tagg_8 : tagg Try.prog 8 = (some true) := by kernel_rfl
attribute [go_sem] tab_tagg_8
theorem tab_tfields_8 : tfields Try.prog 8 = (some [(0, (1, false)), (1, (1, false)), (2, (1, false)), (3, (1, false))]) := by kernel_rfl
attribute [go_sem] tab_tfields_8
theorem tab_teq_8 : teq Try.prog 8 = (some [(0, false), (1, false), (2, true), (3, false)]) := by kernel_rfl
attribute [go_sem] tab_teq_8
theorem tab_tsz_9 : tsz Try.prog 9 = (some 1) := by kernel_rfl
attribute [go_sem] tab_tsz_9
theorem tab_tbytes_9 : tbytes Try.prog 9 = (some 16) := by kernel_rfl
attribute [go_sem] tab_tbytes_9
theorem tab_tagg_9 : tagg Try.prog 9 = (some false) := by kernel_rfl
attribute [go_sem] tab_tagg_9
theorem tab_tsz_10 : tsz Try.prog 10 = (some 1) := by kernel_rfl
attribute [go_sem] tab_tsz_10
theorem tab_tbytes_10 : tbytes Try.prog 10 = (some 16) := by kernel_rfl
attribute [go_sem] tab_tbytes_10
theorem tab_tagg_10 : tagg Try.prog 10 = (some false) := by kernel_rfl
attribute [go_sem] tab_tagg_10
theorem tab_tsz_11 : tsz Try.prog 11 = (some 1) := by kernel_rfl
attribute [go_sem] tab_tsz_11
theorem tab_tbytes_11 : tbytes Try.prog 11 = (some 16) := by kernel_rfl
attribute [go_sem] tab_tbytes_11
theorem tab_tagg_11 : tagg Try.prog 11 = (some false) := by kernel_rfl
attribute [go_sem] tab_tagg_11
theorem tab_tsz_12 : tsz Try.prog 12 = (some 1) := by kernel_rfl
attribute [go_sem] tab_tsz_12
theorem tab_tbytes_12 : tbytes Try.prog 12 = (some 8) := by kernel_rfl
attribute [go_sem] tab_tbytes_12
theorem tab_tagg_12 : tagg Try.prog 12 = (some false) := by kernel_rfl
attribute [go_sem] tab_tagg_12
theorem tab_tint_12 : tint Try.prog 12 = (some IntKind.u64) := by kernel_rfl
attribute [go_sem] tab_tint_12
theorem tab_tsz_13 : tsz Try.prog 13 = (some 2) := by kernel_rfl
attribute [go_sem] tab_tsz_13
theorem tab_tbytes_13 : tbytes Try.prog 13 = (some 24) := by kernel_rfl
attribute [go_sem] tab_tbytes_13
theorem tab_tagg_13 : tagg Try.prog 13 = (some true) := by kernel_rfl
attribute [go_sem] tab_tagg_13
theorem tab_tfields_13 : tfields Try.prog 13 = (some [(0, (1, false)), (1, (1, false))]) := by kernel_rfl
attribute [go_sem] tab_tfields_13
theorem tab_tsz_14 : tsz Try.prog 14 = (some 2) := by kernel_rfl
attribute [go_sem] tab_tsz_14
theorem tab_tbytes_14 : tbytes Try.prog 14 = (some 24) := by kernel_rfl
attribute [go_sem] tab_tbytes_14
theorem tab_tagg_14 : tagg Try.prog 14 = (some true) := by kernel_rfl
attribute [go_sem] tab_tagg_14
theorem tab_tfields_14 : tfields Try.prog 14 = (some [(0, (1, false)), (1, (1, false))]) := by kernel_rfl
attribute [go_sem] tab_tfields_14
theorem tab_tsz_15 : tsz Try.prog 15 = (some 1) := by kernel_rfl
attribute [go_sem] tab_tsz_15
theorem tab_tbytes_15 : tbytes Try.prog 15 = (some 8) := by kernel_rfl
attribute [go_sem] tab_tbytes_15
theorem tab_tagg_15 : tagg Try.prog 15 = (some false) := by kernel_rfl
attribute [go_sem] tab_tagg_15
theorem tab_tsz_16 : tsz Try.prog 16 = (some 1) := by kernel_rfl
attribute [go_sem] tab_tsz_16
theorem tab_tbytes_16 : tbytes Try.prog 16 = (some 8) := by kernel_rfl
attribute [go_sem] tab_tbytes_16
theorem tab_tagg_16 : tagg Try.prog 16 = (some false) := by kernel_rfl
attribute [go_sem] tab_tagg_16
theorem tab_tsz_17 : tsz Try.prog 17 = (some 1) := by kernel_rfl
attribute [go_sem] tab_tsz_17
theorem tab_tbytes_17 : tbytes Try.prog 17 = (some 8) := by kernel_rfl
attribute [go_sem] tab_tbytes_17
theorem tab_tagg_17 : tagg Try.prog 17 = (some false) := by kernel_rfl
attribute [go_sem] tab_tagg_17
theorem tab_tsz_18 : tsz Try.prog 18 = (some 1) := by kernel_rfl
attribute [go_sem] tab_tsz_18
theorem tab_tbytes_18 : tbytes Try.prog 18 = (some 8) := by kernel_rfl
attribute [go_sem] tab_tbytes_18
theorem tab_tagg_18 : tagg Try.prog 18 = (some true) := by kernel_rfl
attribute [go_sem] tab_tagg_18
theorem tab_tfields_18 : tfields Try.prog 18 = (some [(0, (1, false))]) := by kernel_rfl
attribute [go_sem] tab_tfields_18
theorem tab_tsz_19 : tsz Try.prog 19 = (some 1) := by kernel_rfl
attribute [go_sem] tab_tsz_19
theorem tab_tbytes_19 : tbytes Try.prog 19 = (some 8) := by kernel_rfl
attribute [go_sem] tab_tbytes_19
theorem tab_tagg_19 : tagg Try.prog 19 = (some true) := by kernel_rfl
attribute [go_sem] tab_tagg_19
theorem tab_tfields_19 : tfields Try.prog 19 = (some [(0, (1, false))]) := by kernel_rfl
attribute [go_sem] tab_tfields_19
theorem tab_tsz_20 : tsz Try.prog 20 = (some 1) := by kernel_rfl
attribute [go_sem] tab_tsz_20
theorem tab_tbytes_20 : tbytes Try.prog 20 = (some 16) := by kernel_rfl
attribute [go_sem] tab_tbytes_20
theorem tab_tagg_20 : tagg Try.prog 20 = (some false) := by kernel_rfl
attribute [go_sem] tab_tagg_20
theorem tab_tsz_21 : tsz Try.prog 21 = (some 1) := by kernel_rfl
attribute [go_sem] tab_tsz_21
theorem tab_tbytes_21 : tbytes Try.prog 21 = (some 4) := by kernel_rfl
attribute [go_sem] tab_tbytes_21
theorem tab_tagg_21 : tagg Try.prog 21 = (some false) := by kernel_rfl
attribute [go_sem] tab_tagg_21
theorem tab_tint_21 : tint Try.prog 21 = (some IntKind.i32) := by kernel_rfl
attribute [go_sem] tab_tint_21
theorem tab_tsz_22 : tsz Try.prog 22 = (some 1) := by kernel_rfl
attribute [go_sem] tab_tsz_22
theorem tab_tbytes_22 : tbytes Try.prog 22 = (some 24) := by kernel_rfl
attribute [go_sem] tab_tbytes_22
theorem tab_tagg_22 : tagg Try.prog 22 = (some false) := by kernel_rfl
attribute [go_sem] tab_tagg_22
theorem tab_tslice_22 : tslice Try.prog 22 = (some 49) := by kernel_rfl
attribute [go_sem] tab_tslice_22
theorem tab_tsz_23 : tsz Try.prog 23 = (some 2) := by kernel_rfl
attribute [go_sem] tab_tsz_23
theorem tab_tbytes_23 : tbytes Try.prog 23 = (some 32) := by kernel_rfl
attribute [go_sem] tab_tbytes_23
theorem tab_tagg_23 : tagg Try.prog 23 = (some true) := by kernel_rfl
attribute [go_sem] tab_tagg_23
theorem tab_tfields_23 : tfields Try.prog 23 = (some [(0, (1, false)), (1, (1, false))]) := by kernel_rfl
attribute [go_sem] tab_tfields_23
theorem tab_tsz_24 : tsz Try.prog 24 = (some 2) := by kernel_rfl
attribute [go_sem] tab_tsz_24
theorem tab_tbytes_24 : tbytes Try.prog 24 = (some 32) := by kernel_rfl
attribute [go_sem] tab_tbytes_24
theorem tab_tagg_24 : tagg Try.prog 24 = (some true) := by kernel_rfl
attribute [go_sem] tab_tagg_24
theorem tab_tfields_24 : tfields Try.prog 24 = (some [(0, (1, false)), (1, (1, false))]) := by kernel_rfl
attribute [go_sem] tab_tfields_24
theorem tab_tsz_25 : tsz Try.prog 25 = (some 2) := by kernel_rfl
attribute [go_sem] tab_tsz_25
theorem tab_tbytes_25 : tbytes Try.prog 25 = (some 16) := by kernel_rfl
attribute [go_sem] tab_tbytes_25
theorem tab_tagg_25 : tagg Try.prog 25 = (some true) := by kernel_rfl
attribute [go_sem] tab_tagg_25
theorem tab_tfields_25 : tfields Try.prog 25 = (some [(0, (1, false)), (1, (1, false))]) := by kernel_rfl
attribute [go_sem] tab_tfields_25
theorem tab_teq_25 : teq Try.prog 25 = (some [(0, false), (1, false)]) := by kernel_rfl
attribute [go_sem] tab_teq_25
theorem tab_tsz_26 : tsz Try.prog 26 = (some 2) := by kernel_rfl
attribute [go_sem] tab_tsz_26
theorem tab_tbytes_26 : tbytes Try.prog 26 = (some 16) := by kernel_rfl
attribute [go_sem] tab_tbytes_26
theorem tab_tagg_26 : tagg Try.prog 26 = (some true) := by kernel_rfl
attribute [go_sem] tab_tagg_26
theorem tab_tfields_26 : tfields Try.prog 26 = (some [(0, (1, false)), (1, (1, false))]) := by kernel_rfl
attribute [go_sem] tab_tfields_26
theorem tab_teq_26 : teq Try.prog 26 = (some [(0, false), (1, false)]) := by kernel_rfl
attribute [go_sem] tab_teq_26
theorem tab_tsz_27 : tsz Try.prog 27 = (some 4) := by kernel_rfl
attribute [go_sem] tab_tsz_27
theorem tab_tbytes_27 : tbytes Try.prog 27 = (some 32) := by kernel_rfl
attribute [go_sem] tab_tbytes_27
theorem tab_tagg_27 : tagg Try.prog 27 = (some true) := by kernel_rfl
attribute [go_sem] tab_tagg_27
theorem tab_tfields_27 : tfields Try.prog 27 = (some [(0, (1, false)), (1, (1, false)), (2, (2, true))]) := by kernel_rfl
attribute [go_sem] tab_tfields_27
theorem tab_tsz_28 : tsz Try.prog 28 = (some 4) := by kernel_rfl
attribute [go_sem] tab_tsz_28
theorem tab_tbytes_28 : tbytes Try.prog 28 = (some 32) := by kernel_rfl
attribute [go_sem] tab_tbytes_28
theorem tab_tagg_28 : tagg Try.prog 28 = (some true) := by kernel_rfl
attribute [go_sem] tab_tagg_28
theorem tab_tfields_28 : tfields Try.prog 28 = (some [(0, (1, false)), (1, (1, false)), (2, (2, true))]) := by kernel_rfl
attribute [go_sem] tab_tfields_28
theorem tab_tsz_29 : tsz Try.prog 29 = (some 1) := by kernel_rfl
attribute [go_sem] tab_tsz_29
theorem tab_tbytes_29 : tbytes Try.prog 29 = (some 24) := by kernel_rfl
attribute [go_sem] tab_tbytes_29
theorem tab_tagg_29 : tagg Try.prog 29 = (some false) := by kernel_rfl
attribute [go_sem] tab_tagg_29
theorem tab_tslice_29 : tslice Try.prog 29 = (some 3) := by kernel_rfl
attribute [go_sem] tab_tslice_29
theorem tab_tsz_30 : tsz Try.prog 30 = (some 6) := by kernel_rfl
attribute [go_sem] tab_tsz_30
theorem tab_tbytes_30 : tbytes Try.prog 30 = (some 64) := by kernel_rfl
attribute [go_sem] tab_tbytes_30
theorem tab_tagg_30 : tagg Try.prog 30 = (some true) := by kernel_rfl
attribute [go_sem] tab_tagg_30
theorem tab_tfields_30 : tfields Try.prog 30 = (some [(0, (1, false)), (1, (1, false)), (2, (1, false)), (3, (1, false)), (4, (1, false)), (5, (1, false))]) := by kernel_rfl
attribute [go_sem] tab_tfields_30
theorem tab_tsz_31 : tsz Try.prog 31 = (some 6) := by kernel_rfl
attribute [go_sem] tab_tsz_31
theorem tab_tbytes_31 : tbytes Try.prog 31 = (some 64) := by kernel_rfl
attribute [go_sem] tab_tbytes_31
theorem tab_tagg_31 : tagg Try.prog 31 = (some true) := by kernel_rfl
attribute [go_sem] tab_tagg_31
theorem tab_tfields_31 : tfields Try.prog 31 = (some [(0, (1, false)), (1, (1, false)), (2, (1, false)), (3, (1, false)), (4, (1, false)), (5, (1, false))]) := by kernel_rfl
attribute [go_sem] tab_tfields_31
theorem tab_tsz_32 : tsz Try.prog 32 = (some 1) := by kernel_rfl
attribute [go_sem] tab_tsz_32
theorem tab_tbytes_32 : tbytes Try.prog 32 = (some 8) := by kernel_rfl
attribute [go_sem] tab_tbytes_32
theorem tab_tagg_32 : tagg Try.prog 32 = (some false) := by kernel_rfl
attribute [go_sem] tab_tagg_32
theorem tab_tsz_33 : tsz Try.prog 33 = (some 1) := by kernel_rfl
attribute [go_sem] tab_tsz_33
theorem tab_tbytes_33 : tbytes Try.prog 33 = (some 8) := by kernel_rfl
attribute [go_sem] tab_tbytes_33
theorem tab_tagg_33 : tagg Try.prog 33 = (some false) := by kernel_rfl
attribute [go_sem] tab_tagg_33
theorem tab_tsz_34 : tsz Try.prog 34 = (some 1) := by kernel_rfl
attribute [go_sem] tab_tsz_34
theorem tab_tbytes_34 : tbytes Try.prog 34 = (some 8) := by kernel_rfl
attribute [go_sem] tab_tbytes_34
theorem tab_tagg_34 : tagg Try.prog 34 = (some false) := by kernel_rfl
attribute [go_sem] tab_tagg_34
theorem tab_tsz_35 : tsz Try.prog 35 = (some 1) := by kernel_rfl
attribute [go_sem] tab_tsz_35
theorem tab_tbytes_35 : tbytes Try.prog 35 = (some 8) := by kernel_rfl
attribute [go_sem] tab_tbytes_35
theorem tab_tagg_35 : tagg Try.prog 35 = (some false) := by kernel_rfl
attribute [go_sem] tab_tagg_35
theorem tab_tint_35 : tint Try.prog 35 = (some IntKind.i64) := by kernel_rfl
attribute [go_sem] tab_tint_35
theorem tab_tsz_36 : tsz Try.prog 36 = (some 1) := by kernel_rfl
attribute [go_sem] tab_tsz_36
theorem tab_tbytes_36 : tbytes Try.prog 36 = (some 0) := by kernel_rfl
attribute [go_sem] tab_tbytes_36
theorem tab_tagg_36 : tagg Try.prog 36 = (some false) := by kernel_rfl
attribute [go_sem] tab_tagg_36
theorem tab_tsz_37 : tsz Try.prog 37 = (some 1) := by kernel_rfl
attribute [go_sem] tab_tsz_37
theorem tab_tbytes_37 : tbytes Try.prog 37 = (some 8) := by kernel_rfl
attribute [go_sem] tab_tbytes_37
theorem tab_tagg_37 : tagg Try.prog 37 = (some false) := by kernel_rfl
attribute [go_sem] tab_tagg_37
theorem tab_tsz_38 : tsz Try.prog 38 = (some 1) := by kernel_rfl
attribute [go_sem] tab_tsz_38
theorem tab_tbytes_38 : tbytes Try.prog 38 = (some 8) := by kernel_rfl
attribute [go_sem] tab_tbytes_38
theorem tab_tagg_38 : tagg Try.prog 38 = (some false) := by kernel_rfl
attribute [go_sem] tab_tagg_38
theorem tab_tsz_39 : tsz Try.prog 39 = (some 1) := by kernel_rfl
attribute [go_sem] tab_tsz_39
theorem tab_tbytes_39 : tbytes Try.prog 39 = (some 0) := by kernel_rfl
attribute [go_sem] tab_tbytes_39
theorem tab_tagg_39 : tagg Try.prog 39 = (some false) := by kernel_rfl
attribute [go_sem] tab_tagg_39
theorem tab_tsz_40 : tsz Try.prog 40 = (some 1) := by kernel_rfl
attribute [go_sem] tab_tsz_40
theorem tab_tbytes_40 : tbytes Try.prog 40 = (some 8) := by kernel_rfl
attribute [go_sem] tab_tbytes_40
theorem tab_tagg_40 : tagg Try.prog 40 = (some false) := by kernel_rfl
attribute [go_sem] tab_tagg_40
theorem tab_tsz_41 : tsz Try.prog 41 = (some 1) := by kernel_rfl
attribute [go_sem] tab_tsz_41
theorem tab_tbytes_41 : tbytes Try.prog 41 = (some 8) := by kernel_rfl
attribute [go_sem] tab_tbytes_41
theorem tab_tagg_41 : tagg Try.prog 41 = (some false) := by kernel_rfl
attribute [go_sem] tab_tagg_41
theorem tab_tsz_42 : tsz Try.prog 42 = (some 1) := by kernel_rfl
attribute [go_sem] tab_tsz_42
theorem tab_tbytes_42 : tbytes Try.prog 42 = (some 0) := by kernel_rfl
attribute [go_sem] tab_tbytes_42
theorem tab_tagg_42 : tagg Try.prog 42 = (some false) := by kernel_rfl
attribute [go_sem] tab_tagg_42
theorem tab_tsz_43 : tsz Try.prog 43 = (some 1) := by kernel_rfl
attribute [go_sem] tab_tsz_43
theorem tab_tbytes_43 : tbytes Try.prog 43 = (some 8) := by kernel_rfl
attribute [go_sem] tab_tbytes_43
theorem tab_tagg_43 : tagg Try.prog 43 = (some false) := by kernel_rfl
attribute [go_sem] tab_tagg_43
theorem tab_tsz_44 : tsz Try.prog 44 = (some 1) := by kernel_rfl
attribute [go_sem] tab_tsz_44
theorem tab_tbytes_44 : tbytes Try.prog 44 = (some 8) := by kernel_rfl
attribute [go_sem] tab_tbytes_44
theorem tab_tagg_44 : tagg Try.prog 44 = (some false) := by kernel_rfl
attribute [go_sem] tab_tagg_44
theorem tab_tsz_45 : tsz Try.prog 45 = (some 1) := by kernel_rfl
attribute [go_sem] tab_tsz_45
theorem tab_tbytes_45 : tbytes Try.prog 45 = (some 8) := by kernel_rfl
attribute [go_sem] tab_tbytes_45
theorem tab_tagg_45 : tagg Try.prog 45 = (some false) := by kernel_rfl
attribute [go_sem] tab_tagg_45
theorem tab_tsz_46 : tsz Try.prog 46 = (some 1) := by kernel_rfl
attribute [go_sem] tab_tsz_46
theorem tab_tbytes_46 : tbytes Try.prog 46 = (some 8) := by kernel_rfl
attribute [go_sem] tab_tbytes_46
theorem tab_tagg_46 : tagg Try.prog 46 = (some false) := by kernel_rfl
attribute [go_sem] tab_tagg_46
theorem tab_tsz_47 : tsz Try.prog 47 = (some 1) := by kernel_rfl
attribute [go_sem] tab_tsz_47
theorem tab_tbytes_47 : tbytes Try.prog 47 = (some 24) := by kernel_rfl
attribute [go_sem] tab_tbytes_47
theorem tab_tagg_47 : tagg Try.prog 47 = (some false) := by kernel_rfl
attribute [go_sem] tab_tagg_47
theorem tab_tslice_47 : tslice Try.prog 47 = (some 26) := by kernel_rfl
attribute [go_sem] tab_tslice_47
theorem tab_tsz_48 : tsz Try.prog 48 = (some 8) := by kernel_rfl
attribute [go_sem] tab_tsz_48
theorem tab_tbytes_48 : tbytes Try.prog 48 = (some 80) := by kernel_rfl
attribute [go_sem] tab_tbytes_48
theorem tab_tagg_48 : tagg Try.prog 48 = (some true) := by kernel_rfl
attribute [go_sem] tab_tagg_48
theorem tab_tfields_48 : tfields Try.prog 48 = (some [(0, (1, false)), (1, (1, false)), (2, (1, false)), (3, (2, true)), (5, (2, true)), (7, (1, false))]) := by kernel_rfl
attribute [go_sem] tab_tfields_48
theorem tab_tsz_49 : tsz Try.prog 49 = (some 8) := by kernel_rfl
attribute [go_sem] tab_tsz_49
theorem tab_tbytes_49 : tbytes Try.prog 49 = (some 80) := by kernel_rfl
attribute [go_sem] tab_tbytes_49
theorem tab_tagg_49 : tagg Try.prog 49 = (some true) := by kernel_rfl
attribute [go_sem] tab_tagg_49
theorem tab_tfields_49 : tfields Try.prog 49 = (some [(0, (1, false)), (1, (1, false)), (2, (1, false)), (3, (2, true)), (5, (2, true)), (7, (1, false))]) := by kernel_rfl
attribute [go_sem] tab_tfields_49
theorem tab_tsz_50 : tsz Try.prog 50 = (some 1) := by kernel_rfl
attribute [go_sem] tab_tsz_50
theorem tab_tbytes_50 : tbytes Try.prog 50 = (some 8) := by kernel_rfl
attribute [go_sem] tab_tbytes_50
theorem tab_tagg_50 : tagg Try.prog 50 = (some false) := by kernel_rfl
attribute [go_sem] tab_tagg_50
theorem tab_tsz_51 : tsz Try.prog 51 = (some 15) := by kernel_rfl
attribute [go_sem] tab_tsz_51
theorem tab_tbytes_51 : tbytes Try.prog 51 = (some 136) := by kernel_rfl
attribute [go_sem] tab_tbytes_51
theorem tab_tagg_51 : tagg Try.prog 51 = (some true) := by kernel_rfl
attribute [go_sem] tab_tagg_51
theorem tab_tfields_51 : tfields Try.prog 51 = (some [(0, (1, false)), (1, (1, false)), (2, (1, false)), (3, (1, false)), (4, (1, false)), (5, (1, false)), (6, (1, false)), (7, (8, true))]) := by kernel_rfl
attribute [go_sem] tab_tfields_51
theorem tab_tsz_52 : tsz Try.prog 52 = (some 15) := by kernel_rfl
attribute [go_sem] tab_tsz_52
theorem tab_tbytes_52 : tbytes Try.prog 52 = (some 136) := by kernel_rfl
attribute [go_sem] tab_tbytes_52
theorem tab_tagg_52 : tagg Try.prog 52 = (some true) := by kernel_rfl
attribute [go_sem] tab_tagg_52
theorem tab_tfields_52 : tfields Try.prog 52 = (some [(0, (1, false)), (1, (1, false)), (2, (1, false)), (3, (1, false)), (4, (1, false)), (5, (1, false)), (6, (1, false)), (7, (8, true))]) := by kernel_rfl
attribute [go_sem] tab_tfields_52
theorem tab_tsz_53 : tsz Try.prog 53 = (some 1) := by kernel_rfl
attribute [go_sem] tab_tsz_53
theorem tab_tbytes_53 : tbytes Try.prog 53 = (some 0) := by kernel_rfl
attribute [go_sem] tab_tbytes_53
theorem tab_tagg_53 : tagg Try.prog 53 = (some false) := by kernel_rfl
attribute [go_sem] tab_tagg_53
theorem tab_tsz_54 : tsz Try.prog 54 = (some 1) := by kernel_rfl
attribute [go_sem] tab_tsz_54
theorem tab_tbytes_54 : tbytes Try.prog 54 = (some 8) := by kernel_rfl
attribute [go_sem] tab_tbytes_54
theorem tab_tagg_54 : tagg Try.prog 54 = (some false) := by kernel_rfl
attribute [go_sem] tab_tagg_54
theorem tab_tsz_55 : tsz Try.prog 55 = (some 1) := by kernel_rfl
attribute [go_sem] tab_tsz_55
theorem tab_tbytes_55 : tbytes Try.prog 55 = (some 8) := by kernel_rfl
attribute [go_sem] tab_tbytes_55
theorem tab_tagg_55 : tagg Try.prog 55 = (some false) := by kernel_rfl
attribute [go_sem] tab_tagg_55
theorem tab_tsz_56 : tsz Try.prog 56 = (some 1) := by kernel_rfl
attribute [go_sem] tab_tsz_56
theorem tab_tbytes_56 : tbytes Try.prog 56 = (some 8) := by kernel_rfl
attribute [go_sem] tab_tbytes_56
theorem tab_tagg_56 : tagg Try.prog 56 = (some false) := by kernel_rfl
attribute [go_sem] tab_tagg_56
theorem tab_tsz_57 : tsz Try.prog 57 = (some 1) := by kernel_rfl
attribute [go_sem] tab_tsz_57
theorem tab_tbytes_57 : tbytes Try.prog 57 = (some 0) := by kernel_rfl
attribute [go_sem] tab_tbytes_57
theorem tab_tagg_57 : tagg Try.prog 57 = (some false) := by kernel_rfl
attribute [go_sem] tab_tagg_57
theorem tab_tsz_58 : tsz Try.prog 58 = (some 1) := by kernel_rfl
attribute [go_sem] tab_tsz_58
theorem tab_tbytes_58 : tbytes Try.prog 58 = (some 8) := by kernel_rfl
attribute [go_sem] tab_tbytes_58
theorem tab_tagg_58 : tagg Try.prog 58 = (some false) := by kernel_rfl
attribute [go_sem] tab_tagg_58
theorem tab_tsz_59 : tsz Try.prog 59 = (some 1) := by kernel_rfl
attribute [go_sem] tab_tsz_59
theorem tab_tbytes_59 : tbytes Try.prog 59 = (some 0) := by kernel_rfl
attribute [go_sem] tab_tbytes_59
theorem tab_tagg_59 : tagg Try.prog 59 = (some false) := by kernel_rfl
attribute [go_sem] tab_tagg_59
theorem tab_tsz_60 : tsz Try.prog 60 = (some 1) := by kernel_rfl
attribute [go_sem] tab_tsz_60
theorem tab_tbytes_60 : tbytes Try.prog 60 = (some 8) := by kernel_rfl
attribute [go_sem] tab_tbytes_60
theorem tab_tagg_60 : tagg Try.prog 60 = (some false) := by kernel_rfl
attribute [go_sem] tab_tagg_60
theorem tab_tsz_61 : tsz Try.prog 61 = (some 1) := by kernel_rfl
attribute [go_sem] tab_tsz_61
theorem tab_tbytes_61 : tbytes Try.prog 61 = (some 8) := by kernel_rfl
attribute [go_sem] tab_tbytes_61
theorem tab_tagg_61 : tagg Try.prog 61 = (some false) := by kernel_rfl
attribute [go_sem] tab_tagg_61
theorem tab_tsz_62 : tsz Try.prog 62 = (some 1) := by kernel_rfl
attribute [go_sem] tab_tsz_62
theorem tab_tbytes_62 : tbytes Try.prog 62 = (some 8) := by kernel_rfl
attribute [go_sem] tab_tbytes_62
theorem tab_tagg_62 : tagg Try.prog 62 = (some false) := by kernel_rfl
attribute [go_sem] tab_tagg_62
theorem tab_tsz_63 : tsz Try.prog 63 = (some 1) := by kernel_rfl
attribute [go_sem] tab_tsz_63
theorem tab_tbytes_63 : tbytes Try.prog 63 = (some 8) := by kernel_rfl
attribute [go_sem] tab_tbytes_63
theorem tab_tagg_63 : tagg Try.prog 63 = (some false) := by kernel_rfl
attribute [go_sem] tab_tagg_63
theorem tab_tsz_64 : tsz Try.prog 64 = (some 1) := by kernel_rfl
attribute [go_sem] tab_tsz_64
theorem tab_tbytes_64 : tbytes Try.prog 64 = (some 8) := by kernel_rfl
attribute [go_sem] tab_tbytes_64
theorem tab_tagg_64 : tagg Try.prog 64 = (some false) := by kernel_rfl
attribute [go_sem] tab_tagg_64
theorem tab_tsz_65 : tsz Try.prog 65 = (some 1) := by kernel_rfl
attribute [go_sem] tab_tsz_65
theorem tab_tbytes_65 : tbytes Try.prog 65 = (some 8) := by kernel_rfl
attribute [go_sem] tab_tbytes_65
theorem tab_tagg_65 : tagg Try.prog 65 = (some false) := by kernel_rfl
attribute [go_sem] tab_tagg_65
theorem tab_tsz_66 : tsz Try.prog 66 = (some 1) := by kernel_rfl
attribute [go_sem] tab_tsz_66
theorem tab_tbytes_66 : tbytes Try.prog 66 = (some 8) := by kernel_rfl
attribute [go_sem] tab_tbytes_66
theorem tab_tagg_66 : tagg Try.prog 66 = (some false) := by kernel_rfl
attribute [go_sem] tab_tagg_66
theorem tab_tsz_67 : tsz Try.prog 67 = (some 6) := by kernel_rfl
attribute [go_sem] tab_tsz_67
theorem tab_tbytes_67 : tbytes Try.prog 67 = (some 64) := by kernel_rfl
attribute [go_sem] tab_tbytes_67
theorem tab_tagg_67 : tagg Try.prog 67 = (some true) := by kernel_rfl
attribute [go_sem] tab_tagg_67
theorem tab_tfields_67 : tfields Try.prog 67 = (some [(0, (2, true)), (2, (4, true))]) := by kernel_rfl
attribute [go_sem] tab_tfields_67
theorem tab_tsz_68 : tsz Try.prog 68 = (some 6) := by kernel_rfl
attribute [go_sem] tab_tsz_68
theorem tab_tbytes_68 : tbytes Try.prog 68 = (some 64) := by kernel_rfl
attribute [go_sem] tab_tbytes_68
theorem tab_tagg_68 : tagg Try.prog 68 = (some true) := by kernel_rfl
attribute [go_sem] tab_tagg_68
theorem tab_tfields_68 : tfields Try.prog 68 = (some [(0, (2, true)), (2, (4, true))]) := by kernel_rfl
attribute [go_sem] tab_tfields_68
theorem tab_tsz_69 : tsz Try.prog 69 = (some 1) := by kernel_rfl
attribute [go_sem] tab_tsz_69
theorem tab_tbytes_69 : tbytes Try.prog 69 = (some 0) := by kernel_rfl
attribute [go_sem] tab_tbytes_69
theorem tab_tagg_69 : tagg Try.prog 69 = (some false) := by kernel_rfl
attribute [go_sem] tab_tagg_69
theorem tab_tsz_70 : tsz Try.prog 70 = (some 1) := by kernel_rfl
attribute [go_sem] tab_tsz_70
theorem tab_tbytes_70 : tbytes Try.prog 70 = (some 8) := by kernel_rfl
attribute [go_sem] tab_tbytes_70
theorem tab_tagg_70 : tagg Try.prog 70 = (some false) := by kernel_rfl
attribute [go_sem] tab_tagg_70
theorem tab_tsz_71 : tsz Try.prog 71 = (some 2) := by kernel_rfl
attribute [go_sem] tab_tsz_71
theorem tab_tbytes_71 : tbytes Try.prog 71 = (some 48) := by kernel_rfl
attribute [go_sem] tab_tbytes_71
theorem tab_tagg_71 : tagg Try.prog 71 = (some true) := by kernel_rfl
attribute [go_sem] tab_tagg_71
theorem tab_tfields_71 : tfields Try.prog 71 = (some [(0, (1, false)), (1, (1, false))]) := by kernel_rfl
attribute [go_sem] tab_tfields_71
theorem tab_tsz_72 : tsz Try.prog 72 = (some 2) := by kernel_rfl
attribute [go_sem] tab_tsz_72
theorem tab_tbytes_72 : tbytes Try.prog 72 = (some 48) := by kernel_rfl
attribute [go_sem] tab_tbytes_72
theorem tab_tagg_72 : tagg Try.prog 72 = (some true) := by kernel_rfl
attribute [go_sem] tab_tagg_72
theorem tab_tfields_72 : tfields Try.prog 72 = (some [(0, (1, false)), (1, (1, false))]) := by kernel_rfl
attribute [go_sem] tab_tfields_72
theorem tab_tsz_73 : tsz Try.prog 73 = (some 1) := by kernel_rfl
attribute [go_sem] tab_tsz_73
theorem tab_tbytes_73 : tbytes Try.prog 73 = (some 8) := by kernel_rfl
attribute [go_sem] tab_tbytes_73
theorem tab_tagg_73 : tagg Try.prog 73 = (some false) := by kernel_rfl
attribute [go_sem] tab_tagg_73
theorem tab_tsz_74 : tsz Try.prog 74 = (some 1) := by kernel_rfl
attribute [go_sem] tab_tsz_74
theorem tab_tbytes_74 : tbytes Try.prog 74 = (some 8) := by kernel_rfl
attribute [go_sem] tab_tbytes_74
theorem tab_tagg_74 : tagg Try.prog 74 = (some false) := by kernel_rfl
attribute [go_sem] tab_tagg_74
theorem tab_tsz_75 : tsz Try.prog 75 = (some 1) := by kernel_rfl
attribute [go_sem] tab_tsz_75
theorem tab_tbytes_75 : tbytes Try.prog 75 = (some 8) := by kernel_rfl
attribute [go_sem] tab_tbytes_75
theorem tab_tagg_75 : tagg Try.prog 75 = (some false) := by kernel_rfl
attribute [go_sem] tab_tagg_75
theorem tab_tsz_76 : tsz Try.prog 76 = (some 1) := by kernel_rfl
attribute [go_sem] tab_tsz_76
theorem tab_tbytes_76 : tbytes Try.prog 76 = (some 24) := by kernel_rfl
attribute [go_sem] tab_tbytes_76
theorem tab_tagg_76 : tagg Try.prog 76 = (some false) := by kernel_rfl
attribute [go_sem] tab_tagg_76
theorem tab_tslice_76 : tslice Try.prog 76 = (some 29) := by kernel_rfl
attribute [go_sem] tab_tslice_76
theorem tab_tsz_77 : tsz Try.prog 77 = (some 1) := by kernel_rfl
attribute [go_sem] tab_tsz_77
theorem tab_tbytes_77 : tbytes Try.prog 77 = (some 8) := by kernel_rfl
attribute [go_sem] tab_tbytes_77
theorem tab_tagg_77 : tagg Try.prog 77 = (some false) := by kernel_rfl
attribute [go_sem] tab_tagg_77
theorem tab_tsz_78 : tsz Try.prog 78 = (some 1) := by kernel_rfl
attribute [go_sem] tab_tsz_78
theorem tab_tbytes_78 : tbytes Try.prog 78 = (some 8) := by kernel_rfl
attribute [go_sem] tab_tbytes_78
theorem tab_tagg_78 : tagg Try.prog 78 = (some false) := by kernel_rfl
attribute [go_sem] tab_tagg_78
theorem tab_tsz_79 : tsz Try.prog 79 = (some 1) := by kernel_rfl
attribute [go_sem] tab_tsz_79
theorem tab_tbytes_79 : tbytes Try.prog 79 = (some 8) := by kernel_rfl
attribute [go_sem] tab_tbytes_79
theorem tab_tagg_79 : tagg Try.prog 79 = (some false) := by kernel_rfl
attribute [go_sem] tab_tagg_79
theorem tab_tsz_80 : tsz Try.prog 80 = (some 1) := by kernel_rfl
attribute [go_sem] tab_tsz_80
theorem tab_tbytes_80 : tbytes Try.prog 80 = (some 8) := by kernel_rfl
attribute [go_sem] tab_tbytes_80
theorem tab_tagg_80 : tagg Try.prog 80 = (some false) := by kernel_rfl
attribute [go_sem] tab_tagg_80
theorem tab_tsz_81 : tsz Try.prog 81 = (some 1) := by kernel_rfl
attribute [go_sem] tab_tsz_81
theorem tab_tbytes_81 : tbytes Try.prog 81 = (some 8) := by kernel_rfl
attribute [go_sem] tab_tbytes_81
theorem tab_tagg_81 : tagg Try.prog 81 = (some false) := by kernel_rfl
attribute [go_sem] tab_tagg_81
theorem tab_tsz_82 : tsz Try.prog 82 = (some 1) := by kernel_rfl
attribute [go_sem] tab_tsz_82
theorem tab_tbytes_82 : tbytes Try.prog 82 = (some 8) := by kernel_rfl
attribute [go_sem] tab_tbytes_82
theorem tab_tagg_82 : tagg Try.prog 82 = (some false) := by kernel_rfl
attribute [go_sem] tab_tagg_82
theorem tab_tsz_83 : tsz Try.prog 83 = (some 1) := by kernel_rfl
attribute [go_sem] tab_tsz_83
theorem tab_tbytes_83 : tbytes Try.prog 83 = (some 8) := by kernel_rfl
attribute [go_sem] tab_tbytes_83
theorem tab_tagg_83 : tagg Try.prog 83 = (some false) := by kernel_rfl
attribute [go_sem] tab_tagg_83
theorem tab_tsz_84 : tsz Try.prog 84 = (some 1) := by kernel_rfl
attribute [go_sem] tab_tsz_84
theorem tab_tbytes_84 : tbytes Try.prog 84 = (some 8) := by kernel_rfl
attribute [go_sem] tab_tbytes_84
theorem tab_tagg_84 : tagg Try.prog 84 = (some false) := by kernel_rfl
attribute [go_sem] tab_tagg_84
theorem tab_tsz_85 : tsz Try.prog 85 = (some 1) := by kernel_rfl
attribute [go_sem] tab_tsz_85
theorem tab_tbytes_85 : tbytes Try.prog 85 = (some 8) := by kernel_rfl
attribute [go_sem] tab_tbytes_85
theorem tab_tagg_85 : tagg Try.prog 85 = (some false) := by kernel_rfl
attribute [go_sem] tab_tagg_85
theorem tab_tsz_86 : tsz Try.prog 86 = (some 2) := by kernel_rfl
attribute [go_sem] tab_tsz_86
theorem tab_tbytes_86 : tbytes Try.prog 86 = (some 32) := by kernel_rfl
attribute [go_sem] tab_tbytes_86
theorem tab_tagg_86 : tagg Try.prog 86 = (some true) := by kernel_rfl
attribute [go_sem] tab_tagg_86
theorem tab_tfields_86 : tfields Try.prog 86 = (some [(0, (1, false)), (1, (1, false))]) := by kernel_rfl
attribute [go_sem] tab_tfields_86
theorem tab_tsz_87 : tsz Try.prog 87 = (some 2) := by kernel_rfl
attribute [go_sem] tab_tsz_87
theorem tab_tbytes_87 : tbytes Try.prog 87 = (some 32) := by kernel_rfl
attribute [go_sem] tab_tbytes_87
theorem tab_tagg_87 : tagg Try.prog 87 = (some true) := by kernel_rfl
attribute [go_sem] tab_tagg_87
theorem tab_tfields_87 : tfields Try.prog 87 = (some [(0, (1, false)), (1, (1, false))]) := by kernel_rfl
attribute [go_sem] tab_tfields_87
theorem tab_tsz_88 : tsz Try.prog 88 = (some 1) := by kernel_rfl
attribute [go_sem] tab_tsz_88
theorem tab_tbytes_88 : tbytes Try.prog 88 = (some 0) := by kernel_rfl
attribute [go_sem] tab_tbytes_88
theorem tab_tagg_88 : tagg Try.prog 88 = (some false) := by kernel_rfl
attribute [go_sem] tab_tagg_88
theorem tab_tsz_89 : tsz Try.prog 89 = (some 1) := by kernel_rfl
attribute [go_sem] tab_tsz_89
theorem tab_tbytes_89 : tbytes Try.prog 89 = (some 8) := by kernel_rfl
attribute [go_sem] tab_tbytes_89
theorem tab_tagg_89 : tagg Try.prog 89 = (some false) := by kernel_rfl
attribute [go_sem] tab_tagg_89
theorem tab_tsz_90 : tsz Try.prog 90 = (some 1) := by kernel_rfl
attribute [go_sem] tab_tsz_90
theorem tab_tbytes_90 : tbytes Try.prog 90 = (some 8) := by kernel_rfl
attribute [go_sem] tab_tbytes_90
theorem tab_tagg_90 : tagg Try.prog 90 = (some false) := by kernel_rfl
attribute [go_sem] tab_tagg_90
theorem tab_tsz_91 : tsz Try.prog 91 = (some 1) := by kernel_rfl
attribute [go_sem] tab_tsz_91
theorem tab_tbytes_91 : tbytes Try.prog 91 = (some 8) := by kernel_rfl
attribute [go_sem] tab_tbytes_91
theorem tab_tagg_91 : tagg Try.prog 91 = (some false) := by kernel_rfl
attribute [go_sem] tab_tagg_91
theorem tab_tsz_92 : tsz Try.prog 92 = (some 1) := by kernel_rfl
attribute [go_sem] tab_tsz_92
theorem tab_tbytes_92 : tbytes Try.prog 92 = (some 8) := by kernel_rfl
attribute [go_sem] tab_tbytes_92
theorem tab_tagg_92 : tagg Try.prog 92 = (some false) := by kernel_rfl
attribute [go_sem] tab_tagg_92
theorem tab_tsz_93 : tsz Try.prog 93 = (some 1) := by kernel_rfl
attribute [go_sem] tab_tsz_93
theorem tab_tbytes_93 : tbytes Try.prog 93 = (some 8) := by kernel_rfl
attribute [go_sem] tab_tbytes_93
theorem tab_tagg_93 : tagg Try.prog 93 = (some false) := by kernel_rfl
attribute [go_sem] tab_tagg_93
theorem tab_tsz_94 : tsz Try.prog 94 = (some 1) := by kernel_rfl
attribute [go_sem] tab_tsz_94
theorem tab_tbytes_94 : tbytes Try.prog 94 = (some 8) := by kernel_rfl
attribute [go_sem] tab_tbytes_94
theorem tab_tagg_94 : tagg Try.prog 94 = (some false) := by kernel_rfl
attribute [go_sem] tab_tagg_94
theorem tab_tsz_95 : tsz Try.prog 95 = (some 1) := by kernel_rfl
attribute [go_sem] tab_tsz_95
theorem tab_tbytes_95 : tbytes Try.prog 95 = (some 8) := by kernel_rfl
attribute [go_sem] tab_tbytes_95
theorem tab_tagg_95 : tagg Try.prog 95 = (some false) := by kernel_rfl
attribute [go_sem] tab_tagg_95
theorem tab_tsz_96 : tsz Try.prog 96 = (some 1) := by kernel_rfl
attribute [go_sem] tab_tsz_96
theorem tab_tbytes_96 : tbytes Try.prog 96 = (some 8) := by kernel_rfl
attribute [go_sem] tab_tbytes_96
theorem tab_tagg_96 : tagg Try.prog 96 = (some false) := by kernel_rfl
attribute [go_sem] tab_tagg_96
theorem tab_tsz_97 : tsz Try.prog 97 = (some 1) := by kernel_rfl
attribute [go_sem] tab_tsz_97
theorem tab_tbytes_97 : tbytes Try.prog 97 = (some 8) := by kernel_rfl
attribute [go_sem] tab_tbytes_97
theorem tab_tagg_97 : tagg Try.prog 97 = (some false) := by kernel_rfl
attribute [go_sem] tab_tagg_97
theorem tab_tsz_98 : tsz Try.prog 98 = (some 1) := by kernel_rfl
attribute [go_sem] tab_tsz_98
theorem tab_tbytes_98 : tbytes Try.prog 98 = (some 8) := by kernel_rfl
attribute [go_sem] tab_tbytes_98
theorem tab_tagg_98 : tagg Try.prog 98 = (some false) := by kernel_rfl
attribute [go_sem] tab_tagg_98
theorem tab_tsz_99 : tsz Try.prog 99 = (some 1) := by kernel_rfl
attribute [go_sem] tab_tsz_99
theorem tab_tbytes_99 : tbytes Try.prog 99 = (some 8) := by kernel_rfl
attribute [go_sem] tab_tbytes_99
theorem tab_tagg_99 : tagg Try.prog 99 = (some false) := by kernel_rfl
attribute [go_sem] tab_tagg_99
theorem tab_tsz_100 : tsz Try.prog 100 = (some 1) := by kernel_rfl
attribute [go_sem] tab_tsz_100
theorem tab_tbytes_100 : tbytes Try.prog 100 = (some 8) := by kernel_rfl
attribute [go_sem] tab_tbytes_100
theorem tab_tagg_100 : tagg Try.prog 100 = (some false) := by kernel_rfl
attribute [go_sem] tab_tagg_100
theorem tab_tsz_101 : tsz Try.prog 101 = (some 1) := by kernel_rfl
attribute [go_sem] tab_tsz_101
theorem tab_tbytes_101 : tbytes Try.prog 101 = (some 8) := by kernel_rfl
attribute [go_sem] tab_tbytes_101
theorem tab_tagg_101 : tagg Try.prog 101 = (some false) := by kernel_rfl
attribute [go_sem] tab_tagg_101
theorem tab_tsz_102 : tsz Try.prog 102 = (some 1) := by kernel_rfl
attribute [go_sem] tab_tsz_102
theorem tab_tbytes_102 : tbytes Try.prog 102 = (some 8) := by kernel_rfl
attribute [go_sem] tab_tbytes_102
theorem tab_tagg_102 : tagg Try.prog 102 = (some false) := by kernel_rfl
attribute [go_sem] tab_tagg_102
theorem tab_tsz_103 : tsz Try.prog 103 = (some 1) := by kernel_rfl
attribute [go_sem] tab_tsz_103
theorem tab_tbytes_103 : tbytes Try.prog 103 = (some 8) := by kernel_rfl
attribute [go_sem] tab_tbytes_103
theorem tab_tagg_103 : tagg Try.prog 103 = (some false) := by kernel_rfl
attribute [go_sem] tab_tagg_103
theorem tab_tsz_104 : tsz Try.prog 104 = (some 1) := by kernel_rfl
attribute [go_sem] tab_tsz_104
theorem tab_tbytes_104 : tbytes Try.prog 104 = (some 8) := by kernel_rfl
attribute [go_sem] tab_tbytes_104
theorem tab_tagg_104 : tagg Try.prog 104 = (some false) := by kernel_rfl
attribute [go_sem] tab_tagg_104
theorem tab_tsz_105 : tsz Try.prog 105 = (some 1) := by kernel_rfl
attribute [go_sem] tab_tsz_105
theorem tab_tbytes_105 : tbytes Try.prog 105 = (some 8) := by kernel_rfl
attribute [go_sem] tab_tbytes_105
theorem tab_tagg_105 : tagg Try.prog 105 = (some false) := by kernel_rfl
attribute [go_sem] tab_tagg_105
theorem tab_tsz_106 : tsz Try.prog 106 = (some 1) := by kernel_rfl
attribute [go_sem] tab_tsz_106
theorem tab_tbytes_106 : tbytes Try.prog 106 = (some 8) := by kernel_rfl
attribute [go_sem] tab_tbytes_106
theorem tab_tagg_106 : tagg Try.prog 106 = (some false) := by kernel_rfl
attribute [go_sem] tab_tagg_106
theorem tab_tsz_107 : tsz Try.prog 107 = (some 1) := by kernel_rfl
attribute [go_sem] tab_tsz_107
theorem tab_tbytes_107 : tbytes Try.prog 107 = (some 8) := by kernel_rfl
attribute [go_sem] tab_tbytes_107
theorem tab_tagg_107 : tagg Try.prog 107 = (some false) := by kernel_rfl
attribute [go_sem] tab_tagg_107
theorem tab_tsz_108 : tsz Try.prog 108 = (some 1) := by kernel_rfl
attribute [go_sem] tab_tsz_108
theorem tab_tbytes_108 : tbytes Try.prog 108 = (some 8) := by kernel_rfl
attribute [go_sem] tab_tbytes_108
theorem tab_tagg_108 : tagg Try.prog 108 = (some false) := by kernel_rfl
attribute [go_sem] tab_tagg_108
theorem tab_tsz_109 : tsz Try.prog 109 = (some 1) := by kernel_rfl
attribute [go_sem] tab_tsz_109
theorem tab_tbytes_109 : tbytes Try.prog 109 = (some 8) := by kernel_rfl
attribute [go_sem] tab_tbytes_109
theorem tab_tagg_109 : tagg Try.prog 109 = (some false) := by kernel_rfl
attribute [go_sem] tab_tagg_109
theorem tab_tint_109 : tint Try.prog 109 = (some IntKind.u64) := by kernel_rfl
attribute [go_sem] tab_tint_109
theorem tab_tsz_110 : tsz Try.prog 110 = (some 1) := by kernel_rfl
attribute [go_sem] tab_tsz_110
theorem tab_tbytes_110 : tbytes Try.prog 110 = (some 0) := by kernel_rfl
attribute [go_sem] tab_tbytes_110
theorem tab_tagg_110 : tagg Try.prog 110 = (some false) := by kernel_rfl
attribute [go_sem] tab_tagg_110
theorem tab_tsz_111 : tsz Try.prog 111 = (some 1) := by kernel_rfl
attribute [go_sem] tab_tsz_111
theorem tab_tbytes_111 : tbytes Try.prog 111 = (some 8) := by kernel_rfl
attribute [go_sem] tab_tbytes_111
theorem tab_tagg_111 : tagg Try.prog 111 = (some false) := by kernel_rfl
attribute [go_sem] tab_tagg_111
theorem tab_tsz_112 : tsz Try.prog 112 = (some 1) := by kernel_rfl
attribute [go_sem] tab_tsz_112
theorem tab_tbytes_112 : tbytes Try.prog 112 = (some 8) := by kernel_rfl
attribute [go_sem] tab_tbytes_112
theorem tab_tagg_112 : tagg Try.prog 112 = (some false) := by kernel_rfl
attribute [go_sem] tab_tagg_112
theorem tab_tsz_113 : tsz Try.prog 113 = (some 1) := by kernel_rfl
attribute [go_sem] tab_tsz_113
theorem tab_tbytes_113 : tbytes Try.prog 113 = (some 8) := by kernel_rfl
attribute [go_sem] tab_tbytes_113
theorem tab_tagg_113 : tagg Try.prog 113 = (some false) := by kernel_rfl
attribute [go_sem] tab_tagg_113
theorem tab_tsz_114 : tsz Try.prog 114 = (some 1) := by kernel_rfl
attribute [go_sem] tab_tsz_114
theorem tab_tbytes_114 : tbytes Try.prog 114 = (some 8) := by kernel_rfl
attribute [go_sem] tab_tbytes_114
theorem tab_tagg_114 : tagg Try.prog 114 = (some false) := by kernel_rfl
attribute [go_sem] tab_tagg_114
theorem tab_tsz_115 : tsz Try.prog 115 = (some 1) := by kernel_rfl
attribute [go_sem] tab_tsz_115
theorem tab_tbytes_115 : tbytes Try.prog 115 = (some 8) := by kernel_rfl
attribute [go_sem] tab_tbytes_115
theorem tab_tagg_115 : tagg Try.prog 115 = (some false) := by kernel_rfl
attribute [go_sem] tab_tagg_115
theorem tab_tsz_116 : tsz Try.prog 116 = (some 1) := by kernel_rfl
attribute [go_sem] tab_tsz_116
theorem tab_tbytes_116 : tbytes Try.prog 116 = (some 8) := by kernel_rfl
attribute [go_sem] tab_tbytes_116
theorem tab_tagg_116 : tagg Try.prog 116 = (some false) := by kernel_rfl
attribute [go_sem] tab_tagg_116
theorem tab_tsz_117 : tsz Try.prog 117 = (some 1) := by kernel_rfl
attribute [go_sem] tab_tsz_117
theorem tab_tbytes_117 : tbytes Try.prog 117 = (some 4) := by kernel_rfl
attribute [go_sem] tab_tbytes_117
theorem tab_tagg_117 : tagg Try.prog 117 = (some false) := by kernel_rfl
attribute [go_sem] tab_tagg_117
theorem tab_tint_117 : tint Try.prog 117 = (some IntKind.u32) := by kernel_rfl
attribute [go_sem] tab_tint_117
theorem tab_tsz_118 : tsz Try.prog 118 = (some 1) := by kernel_rfl
attribute [go_sem] tab_tsz_118
theorem tab_tbytes_118 : tbytes Try.prog 118 = (some 0) := by kernel_rfl
attribute [go_sem] tab_tbytes_118
theorem tab_tagg_118 : tagg Try.prog 118 = (some false) := by kernel_rfl
attribute [go_sem] tab_tagg_118
theorem tab_tsz_119 : tsz Try.prog 119 = (some 1) := by kernel_rfl
attribute [go_sem] tab_tsz_119
theorem tab_tbytes_119 : tbytes Try.prog 119 = (some 8) := by kernel_rfl
attribute [go_sem] tab_tbytes_119
theorem tab_tagg_119 : tagg Try.prog 119 = (some false) := by kernel_rfl
attribute [go_sem] tab_tagg_119
theorem tab_tsz_120 : tsz Try.prog 120 = (some 1) := by kernel_rfl
attribute [go_sem] tab_tsz_120
theorem tab_tbytes_120 : tbytes Try.prog 120 = (some 8) := by kernel_rfl
attribute [go_sem] tab_tbytes_120
theorem tab_tagg_120 : tagg Try.prog 120 = (some false) := by kernel_rfl
attribute [go_sem] tab_tagg_120
theorem tab_tint_120 : tint Try.prog 120 = (some IntKind.u64) := by kernel_rfl
attribute [go_sem] tab_tint_120
theorem tab_tsz_121 : tsz Try.prog 121 = (some 1) := by kernel_rfl
attribute [go_sem] tab_tsz_121
theorem tab_tbytes_121 : tbytes Try.prog 121 = (some 0) := by kernel_rfl
attribute [go_sem] tab_tbytes_121
theorem tab_tagg_121 : tagg Try.prog 121 = (some false) := by kernel_rfl
attribute [go_sem] tab_tagg_121
theorem tab_tsz_122 : tsz Try.prog 122 = (some 1) := by kernel_rfl
attribute [go_sem] tab_tsz_122
theorem tab_tbytes_122 : tbytes Try.prog 122 = (some 8) := by kernel_rfl
attribute [go_sem] tab_tbytes_122
theorem tab_tagg_122 : tagg Try.prog 122 = (some false) := by kernel_rfl
attribute [go_sem] tab_tagg_122
theorem tab_tsz_123 : tsz Try.prog 123 = (some 1) := by kernel_rfl
attribute [go_sem] tab_tsz_123
theorem tab_tbytes_123 : tbytes Try.prog 123 = (some 8) := by kernel_rfl
attribute [go_sem] tab_tbytes_123
theorem tab_tagg_123 : tagg Try.prog 123 = (some false) := by kernel_rfl
attribute [go_sem] tab_tagg_123
theorem tab_tsz_124 : tsz Try.prog 124 = (some 4) := by kernel_rfl
attribute [go_sem] tab_tsz_124
theorem tab_tbytes_124 : tbytes Try.prog 124 = (some 40) := by kernel_rfl
attribute [go_sem] tab_tbytes_124
theorem tab_tagg_124 : tagg Try.prog 124 = (some true) := by kernel_rfl
attribute [go_sem] tab_tagg_124
theorem tab_tfields_124 : tfields Try.prog 124 = (some [(0, (1, false)), (1, (1, false)), (2, (1, false)), (3, (1, false))]) := by kernel_rfl
attribute [go_sem] tab_tfields_124
theorem tab_zero_1 : tzero Try.prog 1 = some Value.nilFunc := by kernel_rfl
attribute [go_sem] tab_zero_1
theorem tab_zero_2 : tzero Try.prog 2 = some (Value.int IntKind.i64 0) := by kernel_rfl
attribute [go_sem] tab_zero_2
theorem tab_zero_3 : tzero Try.prog 3 = some (Value.int IntKind.i64 0) := by kernel_rfl
attribute [go_sem] tab_zero_3
theorem tab_zero_4 : tzero Try.prog 4 = some (Value.bool false) := by kernel_rfl
attribute [go_sem] tab_zero_4
theorem tab_zero_5 : tzero Try.prog 5 = some (Value.int IntKind.u8 0) := by kernel_rfl
attribute [go_sem] tab_zero_5
theorem tab_zero_6 : tzero Try.prog 6 = some (Value.int IntKind.u8 0) := by kernel_rfl
attribute [go_sem] tab_zero_6
theorem tab_zero_7 : tzero Try.prog 7 = some (Value.agg #[Value.int IntKind.i64 0, Value.int IntKind.i64 0, Value.bool false, Value.int IntKind.u8 0]) := by kernel_rfl
attribute [go_sem] tab_zero_7
theorem tab_zero_8 : tzero Try.prog 8 = some (Value.agg #[Value.int IntKind.i64 0, Value.int IntKind.i64 0, Value.bool false, Value.int IntKind.u8 0]) := by kernel_rfl
attribute [go_sem] tab_zero_8
theorem tab_zero_12 : tzero Try.prog 12 = some (Value.int IntKind.u64 0) := by kernel_rfl
attribute [go_sem] tab_zero_12
theorem tab_zero_15 : tzero Try.prog 15 = some (Value.pointer none) := by kernel_rfl
attribute [go_sem] tab_zero_15
theorem tab_zero_16 : tzero Try.prog 16 = some (Value.pointer none) := by kernel_rfl
attribute [go_sem] tab_zero_16
theorem tab_zero_17 : tzero Try.prog 17 = some (Value.pointer none) := by kernel_rfl
attribute [go_sem] tab_zero_17
theorem tab_zero_18 : tzero Try.prog 18 = some (Value.agg #[Value.pointer none]) := by kernel_rfl
attribute [go_sem] tab_zero_18
theorem tab_zero_19 : tzero Try.prog 19 = some (Value.agg #[Value.pointer none]) := by kernel_rfl
attribute [go_sem] tab_zero_19
theorem tab_zero_21 : tzero Try.prog 21 = some (Value.int IntKind.i32 0) := by kernel_rfl
attribute [go_sem] tab_zero_21
theorem tab_zero_22 : tzero Try.prog 22 = some (Value.slice none 0 0) := by kernel_rfl
attribute [go_sem] tab_zero_22
theorem tab_zero_23 : tzero Try.prog 23 = some (Value.agg #[Value.int IntKind.i64 0, Value.slice none 0 0]) := by kernel_rfl
attribute [go_sem] tab_zero_23
theorem tab_zero_24 : tzero Try.prog 24 = some (Value.agg #[Value.int IntKind.i64 0, Value.slice none 0 0]) := by kernel_rfl
attribute [go_sem] tab_zero_24
theorem tab_zero_25 : tzero Try.prog 25 = some (Value.agg #[Value.int IntKind.i64 0, Value.int IntKind.i64 0]) := by kernel_rfl
attribute [go_sem] tab_zero_25
theorem tab_zero_26 : tzero Try.prog 26 = some (Value.agg #[Value.int IntKind.i64 0, Value.int IntKind.i64 0]) := by kernel_rfl
attribute [go_sem] tab_zero_26
theorem tab_zero_27 : tzero Try.prog 27 = some (Value.agg #[Value.int IntKind.i64 0, Value.int IntKind.i64 0, Value.int IntKind.i64 0, Value.int IntKind.i64 0]) := by kernel_rfl
attribute [go_sem] tab_zero_27
theorem tab_zero_28 : tzero Try.prog 28 = some (Value.agg #[Value.int IntKind.i64 0, Value.int IntKind.i64 0, Value.int IntKind.i64 0, Value.int IntKind.i64 0]) := by kernel_rfl
attribute [go_sem] tab_zero_28
theorem tab_zero_29 : tzero Try.prog 29 = some (Value.slice none 0 0) := by kernel_rfl
attribute [go_sem] tab_zero_29
theorem tab_zero_30 : tzero Try.prog 30 = some (Value.agg #[Value.int IntKind.i64 0, Value.int IntKind.i64 0, Value.int IntKind.i64 0, Value.int IntKind.i64 0, Value.slice none 0 0, Value.int IntKind.i64 0]) := by kernel_rfl
attribute [go_sem] tab_zero_30
theorem tab_zero_31 : tzero Try.prog 31 = some (Value.agg #[Value.int IntKind.i64 0, Value.int IntKind.i64 0, Value.int IntKind.i64 0, Value.int IntKind.i64 0, Value.slice none 0 0, Value.int IntKind.i64 0]) := by kernel_rfl
attribute [go_sem] tab_zero_31
theorem tab_zero_32 : tzero Try.prog 32 = some Value.nilFunc := by kernel_rfl
attribute [go_sem] tab_zero_32
theorem tab_zero_33 : tzero Try.prog 33 = some Value.nilFunc := by kernel_rfl
attribute [go_sem] tab_zero_33
theorem tab_zero_34 : tzero Try.prog 34 = some Value.nilFunc := by kernel_rfl
attribute [go_sem] tab_zero_34
theorem tab_zero_35 : tzero Try.prog 35 = some (Value.int IntKind.i64 0) := by kernel_rfl
attribute [go_sem] tab_zero_35
theorem tab_zero_37 : tzero Try.prog 37 = some Value.nilFunc := by kernel_rfl
attribute [go_sem] tab_zero_37
theorem tab_zero_38 : tzero Try.prog 38 = some Value.nilFunc := by kernel_rfl
attribute [go_sem] tab_zero_38
theorem tab_zero_40 : tzero Try.prog 40 = some Value.nilFunc := by kernel_rfl
attribute [go_sem] tab_zero_40
theorem tab_zero_41 : tzero Try.prog 41 = some Value.nilFunc := by kernel_rfl
attribute [go_sem] tab_zero_41
theorem tab_zero_43 : tzero Try.prog 43 = some Value.nilFunc := by kernel_rfl
attribute [go_sem] tab_zero_43
theorem tab_zero_44 : tzero Try.prog 44 = some Value.nilFunc := by kernel_rfl
attribute [go_sem] tab_zero_44
theorem tab_zero_45 : tzero Try.prog 45 = some Value.nilFunc := by kernel_rfl
attribute [go_sem] tab_zero_45
theorem tab_zero_46 : tzero Try.prog 46 = some Value.nilFunc := by kernel_rfl
attribute [go_sem] tab_zero_46
theorem tab_zero_47 : tzero Try.prog 47 = some (Value.slice none 0 0) := by kernel_rfl
attribute [go_sem] tab_zero_47
theorem tab_zero_48 : tzero Try.prog 48 = some (Value.agg #[Value.int IntKind.i64 0, Value.int IntKind.i64 0, Value.int IntKind.i64 0, Value.int IntKind.i64 0, Value.int IntKind.i64 0, Value.int IntKind.i64 0, Value.int IntKind.i64 0, Value.slice none 0 0]) := by kernel_rfl
attribute [go_sem] tab_zero_48
theorem tab_zero_49 : tzero Try.prog 49 = some (Value.agg #[Value.int IntKind.i64 0, Value.int IntKind.i64 0, Value.int IntKind.i64 0, Value.int IntKind.i64 0, Value.int IntKind.i64 0, Value.int IntKind.i64 0, Value.int IntKind.i64 0, Value.slice none 0 0]) := by kernel_rfl
attribute [go_sem] tab_zero_49
theorem tab_zero_50 : tzero Try.prog 50 = some Value.nilFunc := by kernel_rfl
attribute [go_sem] tab_zero_50
theorem tab_zero_51 : tzero Try.prog 51 = some (Value.agg #[Value.int IntKind.i64 0, Value.int IntKind.i64 0, Value.int IntKind.i64 0, Value.int IntKind.i64 0, Value.int IntKind.i64 0, Value.int IntKind.i64 0, Value.int IntKind.i64 0, Value.int IntKind.i64 0, Value.int IntKind.i64 0, Value.int IntKind.i64 0, Value.int IntKind.i64 0, Value.int IntKind.i64 0, Value.int IntKind.i64 0, Value.int IntKind.i64 0, Value.slice none 0 0]) := by kernel_rfl
attribute [go_sem] tab_zero_51
theorem tab_zero_52 : tzero Try.prog 52 = some (Value.agg #[Value.int IntKind.i64 0, Value.int IntKind.i64 0, Value.int IntKind.i64 0, Value.int IntKind.i64 0, Value.int IntKind.i64 0, Value.int IntKind.i64 0, Value.int IntKind.i64 0, Value.int IntKind.i64 0, Value.int IntKind.i64 0, Value.int IntKind.i64 0, Value.int IntKind.i64 0, Value.int IntKind.i64 0, Value.int IntKind.i64 0, Value.int IntKind.i64 0, Value.slice none 0 0]) := by kernel_rfl
attribute [go_sem] tab_zero_52
theorem tab_zero_54 : tzero Try.prog 54 = some Value.nilFunc := by kernel_rfl
attribute [go_sem] tab_zero_54
theorem tab_zero_55 : tzero Try.prog 55 = some Value.nilFunc := by kernel_rfl
attribute [go_sem] tab_zero_55
theorem tab_zero_56 : tzero Try.prog 56 = some Value.nilFunc := by kernel_rfl
attribute [go_sem] tab_zero_56
theorem tab_zero_58 : tzero Try.prog 58 = some Value.nilFunc := by kernel_rfl
attribute [go_sem] tab_zero_58
theorem tab_zero_60 : tzero Try.prog 60 = some Value.nilFunc := by kernel_rfl
attribute [go_sem] tab_zero_60
theorem tab_zero_61 : tzero Try.prog 61 = some Value.nilFunc := by kernel_rfl
attribute [go_sem] tab_zero_61
theorem tab_zero_62 : tzero Try.prog 62 = some Value.nilFunc := by kernel_rfl
attribute [go_sem] tab_zero_62
theorem tab_zero_63 : tzero Try.prog 63 = some Value.nilFunc := by kernel_rfl
attribute [go_sem] tab_zero_63
theorem tab_zero_64 : tzero Try.prog 64 = some Value.nilFunc := by kernel_rfl
attribute [go_sem] tab_zero_64
theorem tab_zero_65 : tzero Try.prog 65 = some Value.nilFunc := by kernel_rfl
attribute [go_sem] tab_zero_65
theorem tab_zero_66 : tzero Try.prog 66 = some Value.nilFunc := by kernel_rfl
attribute [go_sem] tab_zero_66
theorem tab_zero_67 : tzero Try.prog 67 = some (Value.agg #[Value.int IntKind.i64 0, Value.slice none 0 0, Value.int IntKind.i64 0, Value.int IntKind.i64 0, Value.int IntKind.i64 0, Value.int IntKind.i64 0]) := by kernel_rfl
attribute [go_sem] tab_zero_67
theorem tab_zero_68 : tzero Try.prog 68 = some (Value.agg #[Value.int IntKind.i64 0, Value.slice none 0 0, Value.int IntKind.i64 0, Value.int IntKind.i64 0, Value.int IntKind.i64 0, Value.int IntKind.i64 0]) := by kernel_rfl
attribute [go_sem] tab_zero_68
theorem tab_zero_70 : tzero Try.prog 70 = some Value.nilFunc := by kernel_rfl
attribute [go_sem] tab_zero_70
theorem tab_zero_71 : tzero Try.prog 71 = some (Value.agg #[Value.slice none 0 0, Value.slice none 0 0]) := by kernel_rfl
attribute [go_sem] tab_zero_71
theorem tab_zero_72 : tzero Try.prog 72 = some (Value.agg #[Value.slice none 0 0, Value.slice none 0 0]) := by kernel_rfl
attribute [go_sem] tab_zero_72
theorem tab_zero_73 : tzero Try.prog 73 = some Value.nilFunc := by kernel_rfl
attribute [go_sem] tab_zero_73
theorem tab_zero_74 : tzero Try.prog 74 = some Value.nilFunc := by kernel_rfl
attribute [go_sem] tab_zero_74
theorem tab_zero_75 : tzero Try.prog 75 = some Value.nilFunc := by kernel_rfl
attribute [go_sem] tab_zero_75
theorem tab_zero_76 : tzero Try.prog 76 = some (Value.slice none 0 0) := by kernel_rfl
attribute [go_sem] tab_zero_76
theorem tab_zero_77 : tzero Try.prog 77 = some Value.nilFunc := by kernel_rfl
attribute [go_sem] tab_zero_77
theorem tab_zero_78 : tzero Try.prog 78 = some Value.nilFunc := by kernel_rfl
attribute [go_sem] tab_zero_78
theorem tab_zero_79 : tzero Try.prog 79 = some Value.nilFunc := by kernel_rfl
attribute [go_sem] tab_zero_79
theorem tab_zero_80 : tzero Try.prog 80 = some Value.nilFunc := by kernel_rfl
attribute [go_sem] tab_zero_80
theorem tab_zero_81 : tzero Try.prog 81 = some Value.nilFunc := by kernel_rfl
attribute [go_sem] tab_zero_81
theorem tab_zero_82 : tzero Try.prog 82 = some Value.nilFunc := by kernel_rfl
attribute [go_sem] tab_zero_82
theorem tab_zero_83 : tzero Try.prog 83 = some Value.nilFunc := by kernel_rfl
attribute [go_sem] tab_zero_83
theorem tab_zero_84 : tzero Try.prog 84 = some Value.nilFunc := by kernel_rfl
attribute [go_sem] tab_zero_84
theorem tab_zero_85 : tzero Try.prog 85 = some Value.nilFunc := by kernel_rfl
attribute [go_sem] tab_zero_85
theorem tab_zero_86 : tzero Try.prog 86 = some (Value.agg #[Value.slice none 0 0, Value.int IntKind.i64 0]) := by kernel_rfl
attribute [go_sem] tab_zero_86
theorem tab_zero_87 : tzero Try.prog 87 = some (Value.agg #[Value.slice none 0 0, Value.int IntKind.i64 0]) := by kernel_rfl
attribute [go_sem] tab_zero_87
theorem tab_zero_89 : tzero Try.prog 89 = some Value.nilFunc := by kernel_rfl
attribute [go_sem] tab_zero_89
theorem tab_zero_90 : tzero Try.prog 90 = some Value.nilFunc := by kernel_rfl
attribute [go_sem] tab_zero_90
theorem tab_zero_91 : tzero Try.prog 91 = some Value.nilFunc := by kernel_rfl
attribute [go_sem] tab_zero_91
theorem tab_zero_92 : tzero Try.prog 92 = some Value.nilFunc := by kernel_rfl
attribute [go_sem] tab_zero_92
theorem tab_zero_93 : tzero Try.prog 93 = some Value.nilFunc := by kernel_rfl
attribute [go_sem] tab_zero_93
theorem tab_zero_94 : tzero Try.prog 94 = some Value.nilFunc := by kernel_rfl
attribute [go_sem] tab_zero_94
theorem tab_zero_95 : tzero Try.prog 95 = some Value.nilFunc := by kernel_rfl
attribute [go_sem] tab_zero_95
theorem tab_zero_96 : tzero Try.prog 96 = some Value.nilFunc := by kernel_rfl
attribute [go_sem] tab_zero_96
theorem tab_zero_97 : tzero Try.prog 97 = some Value.nilFunc := by kernel_rfl
attribute [go_sem] tab_zero_97
theorem tab_zero_98 : tzero Try.prog 98 = some Value.nilFunc := by kernel_rfl
attribute [go_sem] tab_zero_98
theorem tab_zero_99 : tzero Try.prog 99 = some Value.nilFunc := by kernel_rfl
attribute [go_sem] tab_zero_99
theorem tab_zero_100 : tzero Try.prog 100 = some Value.nilFunc := by kernel_rfl
attribute [go_sem] tab_zero_100
theorem tab_zero_101 : tzero Try.prog 101 = some Value.nilFunc := by kernel_rfl
attribute [go_sem] tab_zero_101
theorem tab_zero_102 : tzero Try.prog 102 = some Value.nilFunc := by kernel_rfl
attribute [go_sem] tab_zero_102
theorem tab_zero_103 : tzero Try.prog 103 = some Value.nilFunc := by kernel_rfl
attribute [go_sem] tab_zero_103
theorem tab_zero_104 : tzero Try.prog 104 = some Value.nilFunc := by kernel_rfl
attribute [go_sem] tab_zero_104
theorem tab_zero_105 : tzero Try.prog 105 = some Value.nilFunc := by kernel_rfl
attribute [go_sem] tab_zero_105
theorem tab_zero_106 : tzero Try.prog 106 = some Value.nilFunc := by kernel_rfl
attribute [go_sem] tab_zero_106
theorem tab_zero_107 : tzero Try.prog 107 = some Value.nilFunc := by kernel_rfl
attribute [go_sem] tab_zero_107
theorem tab_zero_108 : tzero Try.prog 108 = some Value.nilFunc := by kernel_rfl
attribute [go_sem] tab_zero_108
theorem tab_zero_109 : tzero Try.prog 109 = some (Value.int IntKind.u64 0) := by kernel_rfl
attribute [go_sem] tab_zero_109
theorem tab_zero_111 : tzero Try.prog 111 = some Value.nilFunc := by kernel_rfl
attribute [go_sem] tab_zero_111
theorem tab_zero_112 : tzero Try.prog 112 = some Value.nilFunc := by kernel_rfl
attribute [go_sem] tab_zero_112
theorem tab_zero_113 : tzero Try.prog 113 = some Value.nilFunc := by kernel_rfl
attribute [go_sem] tab_zero_113
theorem tab_zero_114 : tzero Try.prog 114 = some Value.nilFunc := by kernel_rfl
attribute [go_sem] tab_zero_114
theorem tab_zero_115 : tzero Try.prog 115 = some Value.nilFunc := by kernel_rfl
attribute [go_sem] tab_zero_115
theorem tab_zero_116 : tzero Try.prog 116 = some Value.nilFunc := by kernel_rfl
attribute [go_sem] tab_zero_116
theorem tab_zero_117 : tzero Try.prog 117 = some (Value.int IntKind.u32 0) := by kernel_rfl
attribute [go_sem] tab_zero_117
theorem tab_zero_119 : tzero Try.prog 119 = some Value.nilFunc := by kernel_rfl
attribute [go_sem] tab_zero_119
theorem tab_zero_120 : tzero Try.prog 120 = some (Value.int IntKind.u64 0) := by kernel_rfl
attribute [go_sem] tab_zero_120
theorem tab_zero_122 : tzero Try.prog 122 = some Value.nilFunc := by kernel_rfl
attribute [go_sem] tab_zero_122
theorem tab_zero_123 : tzero Try.prog 123 = some Value.nilFunc := by kernel_rfl
attribute [go_sem] tab_zero_123
attribute [go_sem] Try.underlying2
attribute [go_sem] Try.underlying3
attribute [go_sem] Try.underlying4
attribute [go_sem] Try.underlying5
attribute [go_sem] Try.underlying6
attribute [go_sem] Try.underlying12
attribute [go_sem] Try.underlying15
attribute [go_sem] Try.underlying16
attribute [go_sem] Try.underlying17
attribute [go_sem] Try.underlying21
attribute [go_sem] Try.underlying35
attribute [go_sem] Try.underlying109
attribute [go_sem] Try.underlying117
attribute [go_sem] Try.underlying120
end Go.Ab
namespace Go.Ab
open Go.RowKit Go.Proofs

structure Span where
  lo : Int
  hi : Int
structure Path where
  frm : Int
  to : Int
  grade : Int
  time : Span
  snow : Span
  opens : List Span
structure Net where
  places : Int
  paths : List Path
structure Party where
  grade : Int
  load : Int
  pace : Span

def Span.row (s : Span) : List DV := [.i s.lo, .i s.hi]
def Path.row (p : Path) : List DV := [.i p.frm, .i p.to, .i p.grade, .i p.time.lo, .i p.time.hi, .i p.snow.lo, .i p.snow.hi, .sl (p.opens.map Span.row)]
def Net.cells (n : Net) : List DV := [.i n.places, .sl (n.paths.map Path.row)]
def Party.cells (p : Party) : List DV := [.i p.grade, .i p.load, .i p.pace.lo, .i p.pace.hi]
def walkCells (n : Net) (p : Party) : List DV := [.i n.places, .sl (n.paths.map Path.row), .i p.grade, .i p.load, .i p.pace.lo, .i p.pace.hi]

abbrev wr (x : Int) : Int := IntKind.i64.wrap x

def timeW (t pace snow load : Int) : Int := wr ((wr (wr (wr (t * pace) * wr (wr (100 + wr (5 * snow)) + load)) + 9999)).tdiv 10000)

theorem foldl_take_succ {α β : Type} (f : β → α → β) (b : β) (l : List α) (i : Nat) (x : α) (h : l[i]? = some x) : (l.take (i + 1)).foldl f b = f ((l.take i).foldl f b) x := by
  rw [List.take_add_one, h]; simp

theorem wr_small {x : Int} (h : -(2 ^ 63) ≤ x ∧ x < 2 ^ 63) : IntKind.i64.wrap x = x := by
  rw [IntKind.wrap_i64]; omega

def withinB (n lo hi : Int) : Bool := decide (lo ≤ n) && decide (n ≤ hi)
def orderedB (s : Span) (lo hi : Int) : Bool := decide (lo ≤ s.lo) && (decide (s.lo ≤ s.hi) && decide (s.hi ≤ hi))

theorem f65 (n lo hi : Int) : Fn Try.prog 65 [.i n, .i lo, .i hi] (.bool (withinB n lo hi)) := by
  refine fn_walk 15 Try.call65 Try.func65 rfl (by decide) fun J => ?_
  simp (maxSteps := 4000000) only [go_sem, St.start, Try.ntmps65, Try.results65]
  by_cases h : lo ≤ n
  · repeat (first | refine walkL_seq ?_ | refine walkL_skip ?_ | refine walkL_block ?_ | (refine walkL_region fun K hK => ?_; simp (maxSteps := 4000000) only [go_sem, h]; refine hK _ ?_; clear hK K) | refine walkL_nil ?_ | refine walkL_ret ?_ | refine walkL_exit ?_ | refine blockA_here ?_ | refine blockA_other rfl ?_ | refine blockA_ret ?_ | refine blockA_normal ?_ | refine thenA_ret ?_ | refine thenA_exit ?_ | refine thenA_normal ?_)
    simp (maxSteps := 4000000) only [go_sem, withinB, h]
  · repeat (first | refine walkL_seq ?_ | refine walkL_skip ?_ | refine walkL_block ?_ | (refine walkL_region fun K hK => ?_; simp (maxSteps := 4000000) only [go_sem, h]; refine hK _ ?_; clear hK K) | refine walkL_nil ?_ | refine walkL_ret ?_ | refine walkL_exit ?_ | refine blockA_here ?_ | refine blockA_other rfl ?_ | refine blockA_ret ?_ | refine blockA_normal ?_ | refine thenA_ret ?_ | refine thenA_exit ?_ | refine thenA_normal ?_)
    simp (maxSteps := 4000000) only [go_sem, withinB, h]

theorem f71 (n lo hi : Int) : Fn Try.prog 71 [.i n, .i lo, .i hi] (.bool (withinB n lo hi)) := by
  refine fn_walk 15 Try.call71 Try.func71 rfl (by decide) fun J => ?_
  simp (maxSteps := 4000000) only [go_sem, St.start, Try.ntmps71, Try.results71]
  by_cases h : lo ≤ n
  · repeat (first | refine walkL_seq ?_ | refine walkL_skip ?_ | refine walkL_block ?_ | (refine walkL_region fun K hK => ?_; simp (maxSteps := 4000000) only [go_sem, h, ge_iff_le]; refine hK _ ?_; clear hK K) | refine walkL_nil ?_ | refine walkL_ret ?_ | refine walkL_exit ?_ | refine blockA_here ?_ | refine blockA_other rfl ?_ | refine blockA_ret ?_ | refine blockA_normal ?_ | refine thenA_ret ?_ | refine thenA_exit ?_ | refine thenA_normal ?_)
    simp (maxSteps := 4000000) only [go_sem, withinB, h]
  · repeat (first | refine walkL_seq ?_ | refine walkL_skip ?_ | refine walkL_block ?_ | (refine walkL_region fun K hK => ?_; simp (maxSteps := 4000000) only [go_sem, h, ge_iff_le]; refine hK _ ?_; clear hK K) | refine walkL_nil ?_ | refine walkL_ret ?_ | refine walkL_exit ?_ | refine blockA_here ?_ | refine blockA_other rfl ?_ | refine blockA_ret ?_ | refine blockA_normal ?_ | refine thenA_ret ?_ | refine thenA_exit ?_ | refine thenA_normal ?_)
    simp (maxSteps := 4000000) only [go_sem, withinB, h]

theorem f67 (s : Span) (lo hi : Int) : Fn Try.prog 67 [.agg s.row, .i lo, .i hi] (.bool (orderedB s lo hi)) := by
  refine fn_walk 24 Try.call67 Try.func67 rfl (by decide) fun J => ?_
  simp (maxSteps := 4000000) only [go_sem, St.start, Try.ntmps67, Try.results67, Span.row]
  by_cases h : lo ≤ s.lo <;> by_cases h2 : s.lo ≤ s.hi
  all_goals
    repeat (first | refine walkL_seq ?_ | refine walkL_skip ?_ | refine walkL_block ?_ | (refine walkL_region fun K hK => ?_; simp (maxSteps := 4000000) only [go_sem, h, h2]; refine hK _ ?_; clear hK K) | refine walkL_nil ?_ | refine walkL_ret ?_ | refine walkL_exit ?_ | refine blockA_here ?_ | refine blockA_other rfl ?_ | refine blockA_ret ?_ | refine blockA_normal ?_ | refine thenA_ret ?_ | refine thenA_exit ?_ | refine thenA_normal ?_)
    simp (maxSteps := 4000000) only [go_sem, orderedB, h, h2]

theorem f72 (s : Span) (lo hi : Int) : Fn Try.prog 72 [.agg s.row, .i lo, .i hi] (.bool (orderedB s lo hi)) := by
  refine fn_walk 24 Try.call72 Try.func72 rfl (by decide) fun J => ?_
  simp (maxSteps := 4000000) only [go_sem, St.start, Try.ntmps72, Try.results72, Span.row]
  by_cases h : lo ≤ s.lo <;> by_cases h2 : s.lo ≤ s.hi
  all_goals
    repeat (first | refine walkL_seq ?_ | refine walkL_skip ?_ | refine walkL_block ?_ | (refine walkL_region fun K hK => ?_; simp (maxSteps := 4000000) only [go_sem, h, h2, ge_iff_le]; refine hK _ ?_; clear hK K) | refine walkL_nil ?_ | refine walkL_ret ?_ | refine walkL_exit ?_ | refine blockA_here ?_ | refine blockA_other rfl ?_ | refine blockA_ret ?_ | refine blockA_normal ?_ | refine thenA_ret ?_ | refine thenA_exit ?_ | refine thenA_normal ?_)
    simp (maxSteps := 4000000) only [go_sem, orderedB, h, h2]

theorem f64 (n : Net) (x : Int) (hn : 0 ≤ n.places ∧ n.places < 2 ^ 62) : Fn Try.prog 64 [.i x, .ptr n.cells 0] (.bool (withinB x 0 (n.places - 1))) := by
  refine fn_walk 9 Try.call64 Try.func64 rfl (by decide) fun J => ?_
  simp (maxSteps := 4000000) only [go_sem, St.start, Try.ntmps64, Try.results64, Net.cells]
  have hw : IntKind.i64.wrap (n.places - 1) = n.places - 1 := wr_small (by omega)
  repeat (first | refine walkL_seq ?_ | refine walkL_skip ?_ | refine walkL_block ?_ | (refine walkL_region fun K hK => ?_; simp (maxSteps := 4000000) only [go_sem, hw]; (repeat (first | (refine ⟨_, .lent (hf := f65 _ _ _) (hd := rfl) (hr := rfl), ?_⟩; simp (maxSteps := 4000000) only [go_sem, hw]) | (refine ⟨_, .given (hf := f65 _ _ _) (hd := rfl) (ha := rfl), ?_⟩; simp (maxSteps := 4000000) only [go_sem, hw]))); refine hK _ ?_; clear hK K) | refine walkL_nil ?_ | refine walkL_ret ?_ | refine walkL_exit ?_ | refine blockA_here ?_ | refine blockA_other rfl ?_ | refine blockA_ret ?_ | refine blockA_normal ?_ | refine thenA_ret ?_ | refine thenA_exit ?_ | refine thenA_normal ?_)
  simp (maxSteps := 4000000) only [go_sem]

theorem f57 (n : Net) (x : Int) (hn : -(2 ^ 62) ≤ n.places ∧ n.places < 2 ^ 62) : Fn Try.prog 57 [.agg n.cells, .i x] (.bool (withinB x 0 (n.places - 1))) := by
  refine fn_walk 10 Try.call57 Try.func57 rfl (by decide) fun J => ?_
  simp (maxSteps := 4000000) only [go_sem, St.start, Try.ntmps57, Try.results57, Net.cells]
  have hw : IntKind.i64.wrap (n.places - 1) = n.places - 1 := wr_small (by omega)
  repeat (first | refine walkL_seq ?_ | refine walkL_skip ?_ | refine walkL_block ?_ | (refine walkL_region fun K hK => ?_; simp (maxSteps := 4000000) only [go_sem, hw]; (repeat (first | (refine ⟨_, .lent (hf := f71 _ _ _) (hd := rfl) (hr := rfl), ?_⟩; simp (maxSteps := 4000000) only [go_sem, hw]) | (refine ⟨_, .given (hf := f71 _ _ _) (hd := rfl) (ha := rfl), ?_⟩; simp (maxSteps := 4000000) only [go_sem, hw]))); refine hK _ ?_; clear hK K) | refine walkL_nil ?_ | refine walkL_ret ?_ | refine walkL_exit ?_ | refine blockA_here ?_ | refine blockA_other rfl ?_ | refine blockA_ret ?_ | refine blockA_normal ?_ | refine thenA_ret ?_ | refine thenA_exit ?_ | refine thenA_normal ?_)
  simp (maxSteps := 4000000) only [go_sem]

theorem f58 (x : Int) : Fn Try.prog 58 [.i x] (.bool (withinB x 0 2880)) := by
  refine fn_walk 5 Try.call58 Try.func58 rfl (by decide) fun J => ?_
  simp (maxSteps := 4000000) only [go_sem, St.start, Try.ntmps58, Try.results58]
  repeat (first | refine walkL_seq ?_ | refine walkL_skip ?_ | refine walkL_block ?_ | (refine walkL_region fun K hK => ?_; simp (maxSteps := 4000000) only [go_sem]; (repeat (first | (refine ⟨_, .lent (hf := f71 _ _ _) (hd := rfl) (hr := rfl), ?_⟩; simp (maxSteps := 4000000) only [go_sem]) | (refine ⟨_, .given (hf := f71 _ _ _) (hd := rfl) (ha := rfl), ?_⟩; simp (maxSteps := 4000000) only [go_sem]))); refine hK _ ?_; clear hK K) | refine walkL_nil ?_ | refine walkL_ret ?_ | refine walkL_exit ?_ | refine blockA_here ?_ | refine blockA_other rfl ?_ | refine blockA_ret ?_ | refine blockA_normal ?_ | refine thenA_ret ?_ | refine thenA_exit ?_ | refine thenA_normal ?_)
  simp (maxSteps := 4000000) only [go_sem]

theorem f33 (n : Net) (x : Int) (hn : n.paths.length < 2 ^ 62) : Fn Try.prog 33 [.agg n.cells, .i x] (.bool (withinB x 0 (n.paths.length - 1))) := by
  refine fn_walk 11 Try.call33 Try.func33 rfl (by decide) fun J => ?_
  simp (maxSteps := 4000000) only [go_sem, St.start, Try.ntmps33, Try.results33, Net.cells]
  have hw : IntKind.i64.wrap ((n.paths.length : Int) - 1) = n.paths.length - 1 := wr_small (by omega)
  repeat (first | refine walkL_seq ?_ | refine walkL_skip ?_ | refine walkL_block ?_ | (refine walkL_region fun K hK => ?_; simp (maxSteps := 4000000) only [go_sem, hw]; (repeat (first | (refine ⟨_, .lent (hf := f71 _ _ _) (hd := rfl) (hr := rfl), ?_⟩; simp (maxSteps := 4000000) only [go_sem, hw]) | (refine ⟨_, .given (hf := f71 _ _ _) (hd := rfl) (ha := rfl), ?_⟩; simp (maxSteps := 4000000) only [go_sem, hw]))); refine hK _ ?_; clear hK K) | refine walkL_nil ?_ | refine walkL_ret ?_ | refine walkL_exit ?_ | refine blockA_here ?_ | refine blockA_other rfl ?_ | refine blockA_ret ?_ | refine blockA_normal ?_ | refine thenA_ret ?_ | refine thenA_exit ?_ | refine thenA_normal ?_)
  simp (maxSteps := 4000000) only [go_sem]

theorem f66 (s : Span) (n : DV) : Fn Try.prog 66 [.agg s.row] (.bool (!orderedB s 0 2880)) := by
  refine fn_walk 6 Try.call66 Try.func66 rfl (by decide) fun J => ?_
  simp (maxSteps := 4000000) only [go_sem, St.start, Try.ntmps66, Try.results66, Span.row]
  repeat (first | refine walkL_seq ?_ | refine walkL_skip ?_ | refine walkL_block ?_ | (refine walkL_region fun K hK => ?_; simp (maxSteps := 4000000) only [go_sem]; (repeat (first | (refine ⟨_, .lent (hf := f67 s _ _) (hd := rfl) (hr := rfl), ?_⟩; simp (maxSteps := 4000000) only [go_sem]) | (refine ⟨_, .given (hf := f67 s _ _) (hd := rfl) (ha := rfl), ?_⟩; simp (maxSteps := 4000000) only [go_sem]))); refine hK _ ?_; clear hK K) | refine walkL_nil ?_ | refine walkL_ret ?_ | refine walkL_exit ?_ | refine blockA_here ?_ | refine blockA_other rfl ?_ | refine blockA_ret ?_ | refine blockA_normal ?_ | refine thenA_ret ?_ | refine thenA_exit ?_ | refine thenA_normal ?_)
  simp (maxSteps := 4000000) only [go_sem]

theorem f43 (s : Span) : Fn Try.prog 43 [.agg s.row] (.i s.hi) := by
  refine fn_walk 5 Try.call43 Try.func43 rfl (by decide) fun J => ?_
  simp (maxSteps := 4000000) only [go_sem, St.start, Try.ntmps43, Try.results43, Span.row]
  repeat (first | refine walkL_seq ?_ | refine walkL_skip ?_ | refine walkL_block ?_ | (refine walkL_region fun K hK => ?_; simp (maxSteps := 4000000) only [go_sem]; refine hK _ ?_; clear hK K) | refine walkL_nil ?_ | refine walkL_ret ?_ | refine walkL_exit ?_ | refine blockA_here ?_ | refine blockA_other rfl ?_ | refine blockA_ret ?_ | refine blockA_normal ?_ | refine thenA_ret ?_ | refine thenA_exit ?_ | refine thenA_normal ?_)
  simp (maxSteps := 4000000) only [go_sem]

theorem f60 (s : Span) : Fn Try.prog 60 [.agg s.row] (.i s.lo) := by
  refine fn_walk 5 Try.call60 Try.func60 rfl (by decide) fun J => ?_
  simp (maxSteps := 4000000) only [go_sem, St.start, Try.ntmps60, Try.results60, Span.row]
  repeat (first | refine walkL_seq ?_ | refine walkL_skip ?_ | refine walkL_block ?_ | (refine walkL_region fun K hK => ?_; simp (maxSteps := 4000000) only [go_sem]; refine hK _ ?_; clear hK K) | refine walkL_nil ?_ | refine walkL_ret ?_ | refine walkL_exit ?_ | refine blockA_here ?_ | refine blockA_other rfl ?_ | refine blockA_ret ?_ | refine blockA_normal ?_ | refine thenA_ret ?_ | refine thenA_exit ?_ | refine thenA_normal ?_)
  simp (maxSteps := 4000000) only [go_sem]

theorem f82 (lo hi : Int) : Fn Try.prog 82 [.i lo, .i hi] (.agg [.i lo, .i hi]) := by
  refine fn_walk 8 Try.call82 Try.func82 rfl (by decide) fun J => ?_
  simp (maxSteps := 4000000) only [go_sem, St.start, Try.ntmps82, Try.results82]
  repeat (first | refine walkL_seq ?_ | refine walkL_skip ?_ | refine walkL_block ?_ | (refine walkL_region fun K hK => ?_; simp (maxSteps := 4000000) only [go_sem]; refine hK _ ?_; clear hK K) | refine walkL_nil ?_ | refine walkL_ret ?_ | refine walkL_exit ?_ | refine blockA_here ?_ | refine blockA_other rfl ?_ | refine blockA_ret ?_ | refine blockA_normal ?_ | refine thenA_ret ?_ | refine thenA_exit ?_ | refine thenA_normal ?_)
  simp (maxSteps := 4000000) only [go_sem]

theorem f61 (n : Net) (p : Party) (i : Nat) (x : Path) (hx : n.paths[i]? = some x) : Fn Try.prog 61 [.agg n.cells, .agg p.cells, .i i] (.bool (decide (x.grade ≤ p.grade))) := by
  refine fn_walk 16 Try.call61 Try.func61 rfl (by decide) fun J => ?_
  simp (maxSteps := 4000000) only [go_sem, St.start, Try.ntmps61, Try.results61, Net.cells, Party.cells]
  repeat (first | refine walkL_seq ?_ | refine walkL_skip ?_ | refine walkL_block ?_ | (refine walkL_region fun K hK => ?_; simp (maxSteps := 4000000) only [go_sem, hx, List.getElem?_map, Path.row]; refine hK _ ?_; clear hK K) | (refine walkL_drawn (by kernel_rfl) (by kernel_rfl) fun K hK => ?_; simp (maxSteps := 4000000) only [go_sem, hx, List.getElem?_map, Path.row]; refine ⟨by kernel_rfl, hK _ ?_⟩; clear hK K) | refine walkL_nil ?_ | refine walkL_ret ?_ | refine walkL_exit ?_ | refine blockA_here ?_ | refine blockA_other rfl ?_ | refine blockA_ret ?_ | refine blockA_normal ?_ | refine thenA_ret ?_ | refine thenA_exit ?_ | refine thenA_normal ?_)
  simp (maxSteps := 4000000) only [go_sem]

theorem f74 (n : Net) (p : Party) (i : Nat) (x : Path) (hx : n.paths[i]? = some x) : Fn Try.prog 74 [.agg (walkCells n p), .i i] (.bool (decide (x.grade ≤ p.grade))) := by
  refine fn_walk 16 Try.call74 Try.func74 rfl (by decide) fun J => ?_
  simp (maxSteps := 4000000) only [go_sem, St.start, Try.ntmps74, Try.results74, walkCells]
  repeat (first | refine walkL_seq ?_ | refine walkL_skip ?_ | refine walkL_block ?_ | (refine walkL_region fun K hK => ?_; simp (maxSteps := 4000000) only [go_sem, hx, List.getElem?_map, Path.row]; refine hK _ ?_; clear hK K) | (refine walkL_drawn (by kernel_rfl) (by kernel_rfl) fun K hK => ?_; simp (maxSteps := 4000000) only [go_sem, hx, List.getElem?_map, Path.row]; refine ⟨by kernel_rfl, hK _ ?_⟩; clear hK K) | refine walkL_nil ?_ | refine walkL_ret ?_ | refine walkL_exit ?_ | refine blockA_here ?_ | refine blockA_other rfl ?_ | refine blockA_ret ?_ | refine blockA_normal ?_ | refine thenA_ret ?_ | refine thenA_exit ?_ | refine thenA_normal ?_)
  simp (maxSteps := 4000000) only [go_sem]

theorem f88 (t pace snow : Int) (n : Net) (p : Party) : Fn Try.prog 88 [.i t, .i pace, .i snow, .ptr (walkCells n p) 0] (.i (timeW t pace snow p.load)) := by
  refine fn_walk 21 Try.call88 Try.func88 rfl (by decide) fun J => ?_
  simp (maxSteps := 4000000) only [go_sem, St.start, Try.ntmps88, Try.results88, walkCells]
  repeat (first | refine walkL_seq ?_ | refine walkL_skip ?_ | refine walkL_block ?_ | (refine walkL_region fun K hK => ?_; simp (maxSteps := 4000000) only [go_sem]; refine hK _ ?_; clear hK K) | refine walkL_nil ?_ | refine walkL_ret ?_ | refine walkL_exit ?_ | refine blockA_here ?_ | refine blockA_other rfl ?_ | refine blockA_ret ?_ | refine blockA_normal ?_ | refine thenA_ret ?_ | refine thenA_exit ?_ | refine thenA_normal ?_)
  simp (maxSteps := 4000000) only [go_sem, timeW]

theorem f63 (t pace snow load : Int) : Fn Try.prog 63 [.i t, .i pace, .i snow, .i load] (.i (timeW t pace snow load)) := by
  refine fn_walk 20 Try.call63 Try.func63 rfl (by decide) fun J => ?_
  simp (maxSteps := 4000000) only [go_sem, St.start, Try.ntmps63, Try.results63]
  repeat (first | refine walkL_seq ?_ | refine walkL_skip ?_ | refine walkL_block ?_ | (refine walkL_region fun K hK => ?_; simp (maxSteps := 4000000) only [go_sem]; refine hK _ ?_; clear hK K) | refine walkL_nil ?_ | refine walkL_ret ?_ | refine walkL_exit ?_ | refine blockA_here ?_ | refine blockA_other rfl ?_ | refine blockA_ret ?_ | refine blockA_normal ?_ | refine thenA_ret ?_ | refine thenA_exit ?_ | refine thenA_normal ?_)
  simp (maxSteps := 4000000) only [go_sem, timeW]

/-- Enter, as the program and its document reckon it. -/
def enterF (opens : List Span) (t : Int) : Int := opens.foldl (fun f s => if t ≤ s.hi then min f (max t s.lo) else f) 1073741824

theorem f62 (x : Path) (t : Int) (hl : x.opens.length < 2 ^ 62) : Fn Try.prog 62 [.agg x.row, .i t] (.i (enterF x.opens t)) := by
  refine fn_walk 33 Try.call62 Try.func62 rfl (by decide) fun J => ?_
  simp (maxSteps := 4000000) only [go_sem, St.start, Try.ntmps62, Try.results62, Path.row]
  repeat (first | refine walkL_seq ?_ | refine walkL_skip ?_ | refine walkL_block ?_ | (refine walkL_region fun K hK => ?_; simp (maxSteps := 4000000) only [go_sem]; refine hK _ ?_; clear hK K) | refine walkL_nil ?_ | refine walkL_ret ?_ | refine walkL_exit ?_ | refine blockA_here ?_ | refine blockA_other rfl ?_ | refine blockA_ret ?_ | refine blockA_normal ?_ | refine thenA_ret ?_ | refine thenA_exit ?_ | refine thenA_normal ?_)
  refine walkL_loopS (fun (i : Nat) => [(5, .d (.i (enterF (x.opens.take i) t))), (6, .d (.i i))]) (fun _ => []) (fun i => i ≤ x.opens.length) (fun i => x.opens.length - i) 0 ?_ (Nat.zero_le _) ?_
  · simp (maxSteps := 4000000) only [go_sem]
    refine weak_of [] ?_ ?_ rfl rfl <;> simp [lessT, lessM, lessB, AV.less]
    rfl
  · intro i hi
    simp (maxSteps := 4000000) only [go_sem]
    repeat (first | refine walkL_seq ?_ | refine walkL_skip ?_ | refine walkL_block ?_ | (refine walkL_region fun K hK => ?_; simp (maxSteps := 4000000) only [go_sem]; refine hK _ ?_; clear hK K) | refine walkL_nil ?_ | refine walkL_ret ?_ | refine walkL_exit ?_ | refine blockA_here ?_ | refine blockA_other rfl ?_ | refine blockA_ret ?_ | refine blockA_normal ?_ | refine thenA_ret ?_ | refine thenA_exit ?_ | refine thenA_normal ?_)
    refine walkL_cond rfl (fun hb => ?_) (fun hb => ?_)
    · have hlt : i < x.opens.length := by simpa using hb
      obtain ⟨s, hs⟩ : ∃ s, x.opens[i]? = some s := ⟨_, List.getElem?_eq_getElem hlt⟩
      have hw : IntKind.i64.wrap ((i : Int) + 1) = ((i + 1 : Nat) : Int) := by rw [wr_small (by omega)]; simp
      have hn : enterF (x.opens.take (i + 1)) t = if t ≤ s.hi then min (enterF (x.opens.take i) t) (max t s.lo) else enterF (x.opens.take i) t := foldl_take_succ _ _ _ _ _ hs
      repeat (first | refine walkL_seq ?_ | refine walkL_skip ?_ | refine walkL_block ?_ | (refine walkL_region fun K hK => ?_; simp (maxSteps := 4000000) only [go_sem, hs, List.getElem?_map, Span.row, hw]; refine hK _ ?_; clear hK K) | refine walkL_nil ?_ | refine walkL_ret ?_ | refine walkL_exit ?_ | refine blockA_here ?_ | refine blockA_other rfl ?_ | refine blockA_ret ?_ | refine blockA_normal ?_ | refine thenA_ret ?_ | refine thenA_exit ?_ | refine thenA_normal ?_)
      refine walkL_cond rfl (fun hc => ?_) (fun hc => ?_)
      · have hc : t ≤ s.hi := by simpa using hc
        repeat (first | refine walkL_seq ?_ | refine walkL_skip ?_ | refine walkL_block ?_ | (refine walkL_region fun K hK => ?_; simp (maxSteps := 4000000) only [go_sem, hs, List.getElem?_map, Span.row, hw]; refine hK _ ?_; clear hK K) | refine walkL_nil ?_ | refine walkL_ret ?_ | refine walkL_exit ?_ | refine blockA_here ?_ | refine blockA_other rfl ?_ | refine blockA_ret ?_ | refine blockA_normal ?_ | refine thenA_ret ?_ | refine thenA_exit ?_ | refine thenA_normal ?_)
        refine ⟨rfl, i + 1, ?_, hlt, by omega⟩
        rw [hn, if_pos hc]
        refine weak_of [] ?_ ?_ rfl rfl <;> simp [lessT, lessM, lessB, AV.less]
      · have hc : ¬ t ≤ s.hi := by simpa using hc
        repeat (first | refine walkL_seq ?_ | refine walkL_skip ?_ | refine walkL_block ?_ | (refine walkL_region fun K hK => ?_; simp (maxSteps := 4000000) only [go_sem, hs, List.getElem?_map, Span.row, hw]; refine hK _ ?_; clear hK K) | refine walkL_nil ?_ | refine walkL_ret ?_ | refine walkL_exit ?_ | refine blockA_here ?_ | refine blockA_other rfl ?_ | refine blockA_ret ?_ | refine blockA_normal ?_ | refine thenA_ret ?_ | refine thenA_exit ?_ | refine thenA_normal ?_)
        refine ⟨rfl, i + 1, ?_, hlt, by omega⟩
        rw [hn, if_neg hc]
        refine weak_of [] ?_ ?_ rfl rfl <;> simp [lessT, lessM, lessB, AV.less]
    · have he : i = x.opens.length := by have : ¬ i < x.opens.length := by simpa using hb
                                         omega
      subst he
      repeat (first | refine walkL_seq ?_ | refine walkL_skip ?_ | refine walkL_block ?_ | (refine walkL_region fun K hK => ?_; simp (maxSteps := 4000000) only [go_sem]; refine hK _ ?_; clear hK K) | refine walkL_nil ?_ | refine walkL_ret ?_ | refine walkL_exit ?_ | refine blockA_here ?_ | refine blockA_other rfl ?_ | refine blockA_ret ?_ | refine blockA_normal ?_ | refine thenA_ret ?_ | refine thenA_exit ?_ | refine thenA_normal ?_)
      simp (maxSteps := 4000000) only [go_sem, List.take_length]
end Go.Ab
namespace Go.Ab
open Go.RowKit Go.Proofs

def spanW (x : Path) (p : Party) : Span := ⟨timeW x.time.lo p.pace.lo x.snow.lo p.load, timeW x.time.hi p.pace.hi x.snow.hi p.load⟩

theorem f51 (n : Net) (p : Party) (i : Nat) (x : Path) (hx : n.paths[i]? = some x) : Fn Try.prog 51 [.agg (walkCells n p), .i i] (.agg (spanW x p).row) := by
  refine fn_walk 39 Try.call51 Try.func51 rfl (by decide) fun J => ?_
  simp (maxSteps := 4000000) only [go_sem, St.start, Try.ntmps51, Try.results51, walkCells]
  repeat (first | refine walkL_seq ?_ | refine walkL_skip ?_ | refine walkL_block ?_ | (refine walkL_region fun K hK => ?_; simp (maxSteps := 4000000) only [go_sem, hx, List.getElem?_map, Path.row, Span.row, spanW]; (repeat (first | (refine ⟨_, .lent (hf := f88 _ _ _ n p) (hd := rfl) (hr := rfl), ?_⟩; simp (maxSteps := 4000000) only [go_sem, hx, List.getElem?_map, Path.row, Span.row, spanW]) | (refine ⟨_, .given (hf := f88 _ _ _ n p) (hd := rfl) (ha := rfl), ?_⟩; simp (maxSteps := 4000000) only [go_sem, hx, List.getElem?_map, Path.row, Span.row, spanW]))); refine hK _ ?_; clear hK K) | (refine walkL_drawn (by kernel_rfl) (by kernel_rfl) fun K hK => ?_; simp (maxSteps := 4000000) only [go_sem, hx, List.getElem?_map, Path.row, Span.row, spanW]; (repeat (first | (refine ⟨_, .fn (hf := f88 _ _ _ n p) (hd := rfl) (hr := .inl rfl), ?_⟩; simp (maxSteps := 4000000) only [go_sem, hx, List.getElem?_map, Path.row, Span.row, spanW]))); refine ⟨by kernel_rfl, hK _ ?_⟩; clear hK K) | refine walkL_nil ?_ | refine walkL_ret ?_ | refine walkL_exit ?_ | refine blockA_here ?_ | refine blockA_other rfl ?_ | refine blockA_ret ?_ | refine blockA_normal ?_ | refine thenA_ret ?_ | refine thenA_exit ?_ | refine thenA_normal ?_)
  simp (maxSteps := 4000000) only [go_sem, hx, List.getElem?_map, Path.row, Span.row, spanW]

theorem f24 (n : Net) (p : Party) (i : Nat) (x : Path) (hx : n.paths[i]? = some x) : Fn Try.prog 24 [.agg n.cells, .agg p.cells, .i i] (.agg (spanW x p).row) := by
  refine fn_walk 38 Try.call24 Try.func24 rfl (by decide) fun J => ?_
  simp (maxSteps := 4000000) only [go_sem, St.start, Try.ntmps24, Try.results24, Net.cells, Party.cells]
  repeat (first | refine walkL_seq ?_ | refine walkL_skip ?_ | refine walkL_block ?_ | (refine walkL_region fun K hK => ?_; simp (maxSteps := 4000000) only [go_sem, hx, List.getElem?_map, Path.row, Span.row, spanW]; (repeat (first | (refine ⟨_, .lent (hf := f63 _ _ _ _) (hd := rfl) (hr := rfl), ?_⟩; simp (maxSteps := 4000000) only [go_sem, hx, List.getElem?_map, Path.row, Span.row, spanW]) | (refine ⟨_, .given (hf := f63 _ _ _ _) (hd := rfl) (ha := rfl), ?_⟩; simp (maxSteps := 4000000) only [go_sem, hx, List.getElem?_map, Path.row, Span.row, spanW]))); refine hK _ ?_; clear hK K) | (refine walkL_drawn (by kernel_rfl) (by kernel_rfl) fun K hK => ?_; simp (maxSteps := 4000000) only [go_sem, hx, List.getElem?_map, Path.row, Span.row, spanW]; (repeat (first | (refine ⟨_, .fn (hf := f63 _ _ _ _) (hd := rfl) (hr := .inl rfl), ?_⟩; simp (maxSteps := 4000000) only [go_sem, hx, List.getElem?_map, Path.row, Span.row, spanW]))); refine ⟨by kernel_rfl, hK _ ?_⟩; clear hK K) | refine walkL_nil ?_ | refine walkL_ret ?_ | refine walkL_exit ?_ | refine blockA_here ?_ | refine blockA_other rfl ?_ | refine blockA_ret ?_ | refine blockA_normal ?_ | refine thenA_ret ?_ | refine thenA_exit ?_ | refine thenA_normal ?_)
  simp (maxSteps := 4000000) only [go_sem, hx, List.getElem?_map, Path.row, Span.row, spanW]

/-- The position of the first element that q says yes to, or -1. -/
def idxFrom {α : Type} (q : α → Bool) : List α → Nat → Int
  | [], _ => -1
  | x :: xs, i => if q x then (i : Int) else idxFrom q xs (i + 1)

theorem idxFrom_nonneg {α : Type} (q : α → Bool) : ∀ (l : List α) (i : Nat), decide (idxFrom q l i ≥ 0) = l.any q
  | [], i => by simp [idxFrom]
  | x :: xs, i => by
    simp only [idxFrom, List.any_cons]
    by_cases h : q x
    · simp [h]
    · simp [h, ← idxFrom_nonneg q xs (i + 1)]

theorem reify_caps (m : List (Option Blk)) (x : AV) (d : DV) (caps : List DV) (h : reify m deep x = some d) : allSome ((x :: caps.map AV.d).map (reify m deep)) = some (d :: caps) := by
  have : ∀ l : List DV, allSome ((l.map AV.d).map (reify m deep)) = some l := by
    intro l
    induction l with
    | nil => rfl
    | cons a l ih =>
      simp only [List.map_cons]
      rw [show reify m deep (AV.d a) = some a from rfl]
      simp only [allSome, ih, Option.map_some]
  simp only [List.map_cons, h, allSome]
  rw [this caps]
  rfl

theorem drop_get {α : Type} {l : List α} {i : Nat} {x : α} (h : l[i]? = some x) : l.drop i = x :: l.drop (i + 1) := by
  obtain ⟨hlt, rfl⟩ := List.getElem?_eq_some_iff.1 h
  exact List.drop_eq_getElem_cons hlt

theorem f91 (xs : List Span) (g : Nat) (caps : List DV) (q : Span → Bool) (hq : ∀ s ∈ xs, Fn Try.prog g (.agg s.row :: caps) (.bool (q s))) (hl : xs.length < 2 ^ 62) : Fn Try.prog 91 [.sl (xs.map Span.row), .fn g caps] (.i (idxFrom q xs 0)) := by
  refine fn_walk 19 Try.call91 Try.func91 rfl (by decide) fun J => ?_
  simp (maxSteps := 4000000) only [go_sem, St.start, Try.ntmps91, Try.results91]
  repeat (first | refine walkL_seq ?_ | refine walkL_skip ?_ | refine walkL_block ?_ | (refine walkL_region fun K hK => ?_; simp (maxSteps := 4000000) only [go_sem]; refine hK _ ?_; clear hK K) | refine walkL_nil ?_ | refine walkL_ret ?_ | refine walkL_exit ?_ | refine blockA_here ?_ | refine blockA_other rfl ?_ | refine blockA_ret ?_ | refine blockA_normal ?_ | refine thenA_ret ?_ | refine thenA_exit ?_ | refine thenA_normal ?_)
  refine walkL_loopS (fun (i : Nat) => [(8, .d (.i i))]) (fun _ => []) (fun i => i ≤ xs.length ∧ idxFrom q xs 0 = idxFrom q (xs.drop i) i) (fun i => xs.length - i) 0 ?_ ⟨Nat.zero_le _, rfl⟩ ?_
  · simp (maxSteps := 4000000) only [go_sem]
    refine weak_of [] ?_ ?_ rfl rfl <;> simp [lessT, lessM, lessB, AV.less]
  · intro i ⟨hi, hq0⟩
    simp (maxSteps := 4000000) only [go_sem]
    repeat (first | refine walkL_seq ?_ | refine walkL_skip ?_ | refine walkL_block ?_ | (refine walkL_region fun K hK => ?_; simp (maxSteps := 4000000) only [go_sem]; refine hK _ ?_; clear hK K) | refine walkL_nil ?_ | refine walkL_ret ?_ | refine walkL_exit ?_ | refine blockA_here ?_ | refine blockA_other rfl ?_ | refine blockA_ret ?_ | refine blockA_normal ?_ | refine thenA_ret ?_ | refine thenA_exit ?_ | refine thenA_normal ?_)
    refine walkL_cond rfl (fun hb => ?_) (fun hb => ?_)
    · have hlt : i < xs.length := by simpa using hb
      obtain ⟨s, hs⟩ : ∃ s, xs[i]? = some s := ⟨_, List.getElem?_eq_getElem hlt⟩
      have hw : IntKind.i64.wrap ((i : Int) + 1) = ((i + 1 : Nat) : Int) := by rw [wr_small (by omega)]; simp
      rw [drop_get hs, idxFrom] at hq0
      repeat (first | refine walkL_seq ?_ | refine walkL_skip ?_ | refine walkL_block ?_ | (refine walkL_region fun K hK => ?_; simp (maxSteps := 4000000) only [go_sem]; refine hK _ ?_; clear hK K) | refine walkL_nil ?_ | refine walkL_ret ?_ | refine walkL_exit ?_ | refine blockA_here ?_ | refine blockA_other rfl ?_ | refine blockA_ret ?_ | refine blockA_normal ?_ | refine thenA_ret ?_ | refine thenA_exit ?_ | refine thenA_normal ?_)
      refine walkL_region fun K hK => ?_
      simp (maxSteps := 4000000) only [go_sem, hs, List.getElem?_map, Span.row, hw]
      refine ⟨_, .lent (hf := hq s (List.mem_of_getElem? hs)) (hd := reify_caps _ _ _ _ rfl) (hr := rfl), ?_⟩
      simp (maxSteps := 4000000) only [go_sem]
      refine hK _ ?_
      clear hK K
      refine walkL_cond rfl (fun hc => ?_) (fun hc => ?_)
      · rw [hc, if_pos rfl] at hq0
        repeat (first | refine walkL_seq ?_ | refine walkL_skip ?_ | refine walkL_block ?_ | (refine walkL_region fun K hK => ?_; simp (maxSteps := 4000000) only [go_sem]; refine hK _ ?_; clear hK K) | refine walkL_nil ?_ | refine walkL_ret ?_ | refine walkL_exit ?_ | refine blockA_here ?_ | refine blockA_other rfl ?_ | refine blockA_ret ?_ | refine blockA_normal ?_ | refine thenA_ret ?_ | refine thenA_exit ?_ | refine thenA_normal ?_)
        simp (maxSteps := 4000000) only [go_sem, hq0]
      · rw [hc] at hq0
        repeat (first | refine walkL_seq ?_ | refine walkL_skip ?_ | refine walkL_block ?_ | (refine walkL_region fun K hK => ?_; simp (maxSteps := 4000000) only [go_sem, hw]; refine hK _ ?_; clear hK K) | refine walkL_nil ?_ | refine walkL_ret ?_ | refine walkL_exit ?_ | refine blockA_here ?_ | refine blockA_other rfl ?_ | refine blockA_ret ?_ | refine blockA_normal ?_ | refine thenA_ret ?_ | refine thenA_exit ?_ | refine thenA_normal ?_)
        refine ⟨rfl, i + 1, ?_, ⟨hlt, hq0⟩, by omega⟩
        refine weak_of [] ?_ ?_ rfl rfl <;> simp [lessT, lessM, lessB, AV.less]
    · have he : i = xs.length := by have : ¬ i < xs.length := by simpa using hb
                                    omega
      subst he
      repeat (first | refine walkL_seq ?_ | refine walkL_skip ?_ | refine walkL_block ?_ | (refine walkL_region fun K hK => ?_; simp (maxSteps := 4000000) only [go_sem]; refine hK _ ?_; clear hK K) | refine walkL_nil ?_ | refine walkL_ret ?_ | refine walkL_exit ?_ | refine blockA_here ?_ | refine blockA_other rfl ?_ | refine blockA_ret ?_ | refine blockA_normal ?_ | refine thenA_ret ?_ | refine thenA_exit ?_ | refine thenA_normal ?_)
      simp (maxSteps := 4000000) only [go_sem, hq0, List.drop_length, idxFrom]
theorem f92 (xs : List (Path)) (g : Nat) (caps : List DV) (q : Path → Bool) (hq : ∀ s ∈ xs, Fn Try.prog g (.agg s.row :: caps) (.bool (q s))) (hl : xs.length < 2 ^ 62) : Fn Try.prog 92 [.sl (xs.map Path.row), .fn g caps] (.i (idxFrom q xs 0)) := by
  refine fn_walk 19 Try.call92 Try.func92 rfl (by decide) fun J => ?_
  simp (maxSteps := 4000000) only [go_sem, St.start, Try.ntmps92, Try.results92]
  repeat (first | refine walkL_seq ?_ | refine walkL_skip ?_ | refine walkL_block ?_ | (refine walkL_region fun K hK => ?_; simp (maxSteps := 4000000) only [go_sem]; refine hK _ ?_; clear hK K) | refine walkL_nil ?_ | refine walkL_ret ?_ | refine walkL_exit ?_ | refine blockA_here ?_ | refine blockA_other rfl ?_ | refine blockA_ret ?_ | refine blockA_normal ?_ | refine thenA_ret ?_ | refine thenA_exit ?_ | refine thenA_normal ?_)
  refine walkL_loopS (fun (i : Nat) => [(8, .d (.i i))]) (fun _ => []) (fun i => i ≤ xs.length ∧ idxFrom q xs 0 = idxFrom q (xs.drop i) i) (fun i => xs.length - i) 0 ?_ ⟨Nat.zero_le _, rfl⟩ ?_
  · simp (maxSteps := 4000000) only [go_sem]
    refine weak_of [] ?_ ?_ rfl rfl <;> simp [lessT, lessM, lessB, AV.less]
  · intro i ⟨hi, hq0⟩
    simp (maxSteps := 4000000) only [go_sem]
    repeat (first | refine walkL_seq ?_ | refine walkL_skip ?_ | refine walkL_block ?_ | (refine walkL_region fun K hK => ?_; simp (maxSteps := 4000000) only [go_sem]; refine hK _ ?_; clear hK K) | refine walkL_nil ?_ | refine walkL_ret ?_ | refine walkL_exit ?_ | refine blockA_here ?_ | refine blockA_other rfl ?_ | refine blockA_ret ?_ | refine blockA_normal ?_ | refine thenA_ret ?_ | refine thenA_exit ?_ | refine thenA_normal ?_)
    refine walkL_cond rfl (fun hb => ?_) (fun hb => ?_)
    · have hlt : i < xs.length := by simpa using hb
      obtain ⟨s, hs⟩ : ∃ s, xs[i]? = some s := ⟨_, List.getElem?_eq_getElem hlt⟩
      have hw : IntKind.i64.wrap ((i : Int) + 1) = ((i + 1 : Nat) : Int) := by rw [wr_small (by omega)]; simp
      rw [drop_get hs, idxFrom] at hq0
      repeat (first | refine walkL_seq ?_ | refine walkL_skip ?_ | refine walkL_block ?_ | (refine walkL_region fun K hK => ?_; simp (maxSteps := 4000000) only [go_sem]; refine hK _ ?_; clear hK K) | refine walkL_nil ?_ | refine walkL_ret ?_ | refine walkL_exit ?_ | refine blockA_here ?_ | refine blockA_other rfl ?_ | refine blockA_ret ?_ | refine blockA_normal ?_ | refine thenA_ret ?_ | refine thenA_exit ?_ | refine thenA_normal ?_)
      refine walkL_region fun K hK => ?_
      simp (maxSteps := 4000000) only [go_sem, hs, List.getElem?_map, Path.row, hw]
      refine ⟨_, .lent (hf := hq s (List.mem_of_getElem? hs)) (hd := reify_caps _ _ _ _ rfl) (hr := rfl), ?_⟩
      simp (maxSteps := 4000000) only [go_sem]
      refine hK _ ?_
      clear hK K
      refine walkL_cond rfl (fun hc => ?_) (fun hc => ?_)
      · rw [hc, if_pos rfl] at hq0
        repeat (first | refine walkL_seq ?_ | refine walkL_skip ?_ | refine walkL_block ?_ | (refine walkL_region fun K hK => ?_; simp (maxSteps := 4000000) only [go_sem]; refine hK _ ?_; clear hK K) | refine walkL_nil ?_ | refine walkL_ret ?_ | refine walkL_exit ?_ | refine blockA_here ?_ | refine blockA_other rfl ?_ | refine blockA_ret ?_ | refine blockA_normal ?_ | refine thenA_ret ?_ | refine thenA_exit ?_ | refine thenA_normal ?_)
        simp (maxSteps := 4000000) only [go_sem, hq0]
      · rw [hc] at hq0
        repeat (first | refine walkL_seq ?_ | refine walkL_skip ?_ | refine walkL_block ?_ | (refine walkL_region fun K hK => ?_; simp (maxSteps := 4000000) only [go_sem, hw]; refine hK _ ?_; clear hK K) | refine walkL_nil ?_ | refine walkL_ret ?_ | refine walkL_exit ?_ | refine blockA_here ?_ | refine blockA_other rfl ?_ | refine blockA_ret ?_ | refine blockA_normal ?_ | refine thenA_ret ?_ | refine thenA_exit ?_ | refine thenA_normal ?_)
        refine ⟨rfl, i + 1, ?_, ⟨hlt, hq0⟩, by omega⟩
        refine weak_of [] ?_ ?_ rfl rfl <;> simp [lessT, lessM, lessB, AV.less]
    · have he : i = xs.length := by have : ¬ i < xs.length := by simpa using hb
                                    omega
      subst he
      repeat (first | refine walkL_seq ?_ | refine walkL_skip ?_ | refine walkL_block ?_ | (refine walkL_region fun K hK => ?_; simp (maxSteps := 4000000) only [go_sem]; refine hK _ ?_; clear hK K) | refine walkL_nil ?_ | refine walkL_ret ?_ | refine walkL_exit ?_ | refine blockA_here ?_ | refine blockA_other rfl ?_ | refine blockA_ret ?_ | refine blockA_normal ?_ | refine thenA_ret ?_ | refine thenA_exit ?_ | refine thenA_normal ?_)
      simp (maxSteps := 4000000) only [go_sem, hq0, List.drop_length, idxFrom]
theorem f93 (xs : List (Int)) (g : Nat) (caps : List DV) (q : Int → Bool) (hq : ∀ s ∈ xs, Fn Try.prog g (.i s :: caps) (.bool (q s))) (hl : xs.length < 2 ^ 62) : Fn Try.prog 93 [.sl (xs.map (fun x => [.i x])), .fn g caps] (.i (idxFrom q xs 0)) := by
  refine fn_walk 19 Try.call93 Try.func93 rfl (by decide) fun J => ?_
  simp (maxSteps := 4000000) only [go_sem, St.start, Try.ntmps93, Try.results93]
  repeat (first | refine walkL_seq ?_ | refine walkL_skip ?_ | refine walkL_block ?_ | (refine walkL_region fun K hK => ?_; simp (maxSteps := 4000000) only [go_sem]; refine hK _ ?_; clear hK K) | refine walkL_nil ?_ | refine walkL_ret ?_ | refine walkL_exit ?_ | refine blockA_here ?_ | refine blockA_other rfl ?_ | refine blockA_ret ?_ | refine blockA_normal ?_ | refine thenA_ret ?_ | refine thenA_exit ?_ | refine thenA_normal ?_)
  refine walkL_loopS (fun (i : Nat) => [(8, .d (.i i))]) (fun _ => []) (fun i => i ≤ xs.length ∧ idxFrom q xs 0 = idxFrom q (xs.drop i) i) (fun i => xs.length - i) 0 ?_ ⟨Nat.zero_le _, rfl⟩ ?_
  · simp (maxSteps := 4000000) only [go_sem]
    refine weak_of [] ?_ ?_ rfl rfl <;> simp [lessT, lessM, lessB, AV.less]
  · intro i ⟨hi, hq0⟩
    simp (maxSteps := 4000000) only [go_sem]
    repeat (first | refine walkL_seq ?_ | refine walkL_skip ?_ | refine walkL_block ?_ | (refine walkL_region fun K hK => ?_; simp (maxSteps := 4000000) only [go_sem]; refine hK _ ?_; clear hK K) | refine walkL_nil ?_ | refine walkL_ret ?_ | refine walkL_exit ?_ | refine blockA_here ?_ | refine blockA_other rfl ?_ | refine blockA_ret ?_ | refine blockA_normal ?_ | refine thenA_ret ?_ | refine thenA_exit ?_ | refine thenA_normal ?_)
    refine walkL_cond rfl (fun hb => ?_) (fun hb => ?_)
    · have hlt : i < xs.length := by simpa using hb
      obtain ⟨s, hs⟩ : ∃ s, xs[i]? = some s := ⟨_, List.getElem?_eq_getElem hlt⟩
      have hw : IntKind.i64.wrap ((i : Int) + 1) = ((i + 1 : Nat) : Int) := by rw [wr_small (by omega)]; simp
      rw [drop_get hs, idxFrom] at hq0
      repeat (first | refine walkL_seq ?_ | refine walkL_skip ?_ | refine walkL_block ?_ | (refine walkL_region fun K hK => ?_; simp (maxSteps := 4000000) only [go_sem]; refine hK _ ?_; clear hK K) | refine walkL_nil ?_ | refine walkL_ret ?_ | refine walkL_exit ?_ | refine blockA_here ?_ | refine blockA_other rfl ?_ | refine blockA_ret ?_ | refine blockA_normal ?_ | refine thenA_ret ?_ | refine thenA_exit ?_ | refine thenA_normal ?_)
      refine walkL_region fun K hK => ?_
      simp (maxSteps := 4000000) only [go_sem, hs, List.getElem?_map, hw]
      refine ⟨_, .lent (hf := hq s (List.mem_of_getElem? hs)) (hd := reify_caps _ _ _ _ rfl) (hr := rfl), ?_⟩
      simp (maxSteps := 4000000) only [go_sem]
      refine hK _ ?_
      clear hK K
      refine walkL_cond rfl (fun hc => ?_) (fun hc => ?_)
      · rw [hc, if_pos rfl] at hq0
        repeat (first | refine walkL_seq ?_ | refine walkL_skip ?_ | refine walkL_block ?_ | (refine walkL_region fun K hK => ?_; simp (maxSteps := 4000000) only [go_sem]; refine hK _ ?_; clear hK K) | refine walkL_nil ?_ | refine walkL_ret ?_ | refine walkL_exit ?_ | refine blockA_here ?_ | refine blockA_other rfl ?_ | refine blockA_ret ?_ | refine blockA_normal ?_ | refine thenA_ret ?_ | refine thenA_exit ?_ | refine thenA_normal ?_)
        simp (maxSteps := 4000000) only [go_sem, hq0]
      · rw [hc] at hq0
        repeat (first | refine walkL_seq ?_ | refine walkL_skip ?_ | refine walkL_block ?_ | (refine walkL_region fun K hK => ?_; simp (maxSteps := 4000000) only [go_sem, hw]; refine hK _ ?_; clear hK K) | refine walkL_nil ?_ | refine walkL_ret ?_ | refine walkL_exit ?_ | refine blockA_here ?_ | refine blockA_other rfl ?_ | refine blockA_ret ?_ | refine blockA_normal ?_ | refine thenA_ret ?_ | refine thenA_exit ?_ | refine thenA_normal ?_)
        refine ⟨rfl, i + 1, ?_, ⟨hlt, hq0⟩, by omega⟩
        refine weak_of [] ?_ ?_ rfl rfl <;> simp [lessT, lessM, lessB, AV.less]
    · have he : i = xs.length := by have : ¬ i < xs.length := by simpa using hb
                                    omega
      subst he
      repeat (first | refine walkL_seq ?_ | refine walkL_skip ?_ | refine walkL_block ?_ | (refine walkL_region fun K hK => ?_; simp (maxSteps := 4000000) only [go_sem]; refine hK _ ?_; clear hK K) | refine walkL_nil ?_ | refine walkL_ret ?_ | refine walkL_exit ?_ | refine blockA_here ?_ | refine blockA_other rfl ?_ | refine blockA_ret ?_ | refine blockA_normal ?_ | refine thenA_ret ?_ | refine thenA_exit ?_ | refine thenA_normal ?_)
      simp (maxSteps := 4000000) only [go_sem, hq0, List.drop_length, idxFrom]
theorem f44 (xs : List (List Int)) (g : Nat) (caps : List DV) (q : List Int → Bool) (hq : ∀ s ∈ xs, Fn Try.prog g (.sl (s.map fun x => [.i x]) :: caps) (.bool (q s))) (hl : xs.length < 2 ^ 62) : Fn Try.prog 44 [.sl (xs.map (fun l => [.sl (l.map fun x => [.i x])])), .fn g caps] (.i (idxFrom q xs 0)) := by
  refine fn_walk 19 Try.call44 Try.func44 rfl (by decide) fun J => ?_
  simp (maxSteps := 4000000) only [go_sem, St.start, Try.ntmps44, Try.results44]
  repeat (first | refine walkL_seq ?_ | refine walkL_skip ?_ | refine walkL_block ?_ | (refine walkL_region fun K hK => ?_; simp (maxSteps := 4000000) only [go_sem]; refine hK _ ?_; clear hK K) | refine walkL_nil ?_ | refine walkL_ret ?_ | refine walkL_exit ?_ | refine blockA_here ?_ | refine blockA_other rfl ?_ | refine blockA_ret ?_ | refine blockA_normal ?_ | refine thenA_ret ?_ | refine thenA_exit ?_ | refine thenA_normal ?_)
  refine walkL_loopS (fun (i : Nat) => [(8, .d (.i i))]) (fun _ => []) (fun i => i ≤ xs.length ∧ idxFrom q xs 0 = idxFrom q (xs.drop i) i) (fun i => xs.length - i) 0 ?_ ⟨Nat.zero_le _, rfl⟩ ?_
  · simp (maxSteps := 4000000) only [go_sem]
    refine weak_of [] ?_ ?_ rfl rfl <;> simp [lessT, lessM, lessB, AV.less]
  · intro i ⟨hi, hq0⟩
    simp (maxSteps := 4000000) only [go_sem]
    repeat (first | refine walkL_seq ?_ | refine walkL_skip ?_ | refine walkL_block ?_ | (refine walkL_region fun K hK => ?_; simp (maxSteps := 4000000) only [go_sem]; refine hK _ ?_; clear hK K) | refine walkL_nil ?_ | refine walkL_ret ?_ | refine walkL_exit ?_ | refine blockA_here ?_ | refine blockA_other rfl ?_ | refine blockA_ret ?_ | refine blockA_normal ?_ | refine thenA_ret ?_ | refine thenA_exit ?_ | refine thenA_normal ?_)
    refine walkL_cond rfl (fun hb => ?_) (fun hb => ?_)
    · have hlt : i < xs.length := by simpa using hb
      obtain ⟨s, hs⟩ : ∃ s, xs[i]? = some s := ⟨_, List.getElem?_eq_getElem hlt⟩
      have hw : IntKind.i64.wrap ((i : Int) + 1) = ((i + 1 : Nat) : Int) := by rw [wr_small (by omega)]; simp
      rw [drop_get hs, idxFrom] at hq0
      repeat (first | refine walkL_seq ?_ | refine walkL_skip ?_ | refine walkL_block ?_ | (refine walkL_region fun K hK => ?_; simp (maxSteps := 4000000) only [go_sem]; refine hK _ ?_; clear hK K) | refine walkL_nil ?_ | refine walkL_ret ?_ | refine walkL_exit ?_ | refine blockA_here ?_ | refine blockA_other rfl ?_ | refine blockA_ret ?_ | refine blockA_normal ?_ | refine thenA_ret ?_ | refine thenA_exit ?_ | refine thenA_normal ?_)
      refine walkL_region fun K hK => ?_
      simp (maxSteps := 4000000) only [go_sem, hs, List.getElem?_map, hw]
      refine ⟨_, .lent (hf := hq s (List.mem_of_getElem? hs)) (hd := reify_caps _ _ _ _ rfl) (hr := rfl), ?_⟩
      simp (maxSteps := 4000000) only [go_sem]
      refine hK _ ?_
      clear hK K
      refine walkL_cond rfl (fun hc => ?_) (fun hc => ?_)
      · rw [hc, if_pos rfl] at hq0
        repeat (first | refine walkL_seq ?_ | refine walkL_skip ?_ | refine walkL_block ?_ | (refine walkL_region fun K hK => ?_; simp (maxSteps := 4000000) only [go_sem]; refine hK _ ?_; clear hK K) | refine walkL_nil ?_ | refine walkL_ret ?_ | refine walkL_exit ?_ | refine blockA_here ?_ | refine blockA_other rfl ?_ | refine blockA_ret ?_ | refine blockA_normal ?_ | refine thenA_ret ?_ | refine thenA_exit ?_ | refine thenA_normal ?_)
        simp (maxSteps := 4000000) only [go_sem, hq0]
      · rw [hc] at hq0
        repeat (first | refine walkL_seq ?_ | refine walkL_skip ?_ | refine walkL_block ?_ | (refine walkL_region fun K hK => ?_; simp (maxSteps := 4000000) only [go_sem, hw]; refine hK _ ?_; clear hK K) | refine walkL_nil ?_ | refine walkL_ret ?_ | refine walkL_exit ?_ | refine blockA_here ?_ | refine blockA_other rfl ?_ | refine blockA_ret ?_ | refine blockA_normal ?_ | refine thenA_ret ?_ | refine thenA_exit ?_ | refine thenA_normal ?_)
        refine ⟨rfl, i + 1, ?_, ⟨hlt, hq0⟩, by omega⟩
        refine weak_of [] ?_ ?_ rfl rfl <;> simp [lessT, lessM, lessB, AV.less]
    · have he : i = xs.length := by have : ¬ i < xs.length := by simpa using hb
                                    omega
      subst he
      repeat (first | refine walkL_seq ?_ | refine walkL_skip ?_ | refine walkL_block ?_ | (refine walkL_region fun K hK => ?_; simp (maxSteps := 4000000) only [go_sem]; refine hK _ ?_; clear hK K) | refine walkL_nil ?_ | refine walkL_ret ?_ | refine walkL_exit ?_ | refine blockA_here ?_ | refine blockA_other rfl ?_ | refine blockA_ret ?_ | refine blockA_normal ?_ | refine thenA_ret ?_ | refine thenA_exit ?_ | refine thenA_normal ?_)
      simp (maxSteps := 4000000) only [go_sem, hq0, List.drop_length, idxFrom]
theorem f69 (xs : List (Span)) (g : Nat) (caps : List DV) (q : Span → Bool) (hq : ∀ s ∈ xs, Fn Try.prog g (.agg s.row :: caps) (.bool (q s))) (hl : xs.length < 2 ^ 62) : Fn Try.prog 69 [.sl (xs.map Span.row), .fn g caps] (.bool (xs.any q)) := by
  refine fn_walk 9 Try.call69 Try.func69 rfl (by decide) fun J => ?_
  simp (maxSteps := 4000000) only [go_sem, St.start, Try.ntmps69, Try.results69]
  repeat (first | refine walkL_seq ?_ | refine walkL_skip ?_ | refine walkL_block ?_ | (refine walkL_region fun K hK => ?_; simp (maxSteps := 4000000) only [go_sem]; (repeat (first | (refine ⟨_, .lent (hf := f91 xs g caps q hq hl) (hd := rfl) (hr := rfl), ?_⟩; simp (maxSteps := 4000000) only [go_sem]) | (refine ⟨_, .given (hf := f91 xs g caps q hq hl) (hd := rfl) (ha := rfl), ?_⟩; simp (maxSteps := 4000000) only [go_sem]))); refine hK _ ?_; clear hK K) | refine walkL_nil ?_ | refine walkL_ret ?_ | refine walkL_exit ?_ | refine blockA_here ?_ | refine blockA_other rfl ?_ | refine blockA_ret ?_ | refine blockA_normal ?_ | refine thenA_ret ?_ | refine thenA_exit ?_ | refine thenA_normal ?_)
  simp (maxSteps := 4000000) only [go_sem, idxFrom_nonneg]

theorem f70 (xs : List (Path)) (g : Nat) (caps : List DV) (q : Path → Bool) (hq : ∀ s ∈ xs, Fn Try.prog g (.agg s.row :: caps) (.bool (q s))) (hl : xs.length < 2 ^ 62) : Fn Try.prog 70 [.sl (xs.map Path.row), .fn g caps] (.bool (xs.any q)) := by
  refine fn_walk 9 Try.call70 Try.func70 rfl (by decide) fun J => ?_
  simp (maxSteps := 4000000) only [go_sem, St.start, Try.ntmps70, Try.results70]
  repeat (first | refine walkL_seq ?_ | refine walkL_skip ?_ | refine walkL_block ?_ | (refine walkL_region fun K hK => ?_; simp (maxSteps := 4000000) only [go_sem]; (repeat (first | (refine ⟨_, .lent (hf := f92 xs g caps q hq hl) (hd := rfl) (hr := rfl), ?_⟩; simp (maxSteps := 4000000) only [go_sem]) | (refine ⟨_, .given (hf := f92 xs g caps q hq hl) (hd := rfl) (ha := rfl), ?_⟩; simp (maxSteps := 4000000) only [go_sem]))); refine hK _ ?_; clear hK K) | refine walkL_nil ?_ | refine walkL_ret ?_ | refine walkL_exit ?_ | refine blockA_here ?_ | refine blockA_other rfl ?_ | refine blockA_ret ?_ | refine blockA_normal ?_ | refine thenA_ret ?_ | refine thenA_exit ?_ | refine thenA_normal ?_)
  simp (maxSteps := 4000000) only [go_sem, idxFrom_nonneg]

theorem f83 (xs : List (Int)) (g : Nat) (caps : List DV) (q : Int → Bool) (hq : ∀ s ∈ xs, Fn Try.prog g (.i s :: caps) (.bool (q s))) (hl : xs.length < 2 ^ 62) : Fn Try.prog 83 [.sl (xs.map fun x => [.i x]), .fn g caps] (.bool (xs.any q)) := by
  refine fn_walk 9 Try.call83 Try.func83 rfl (by decide) fun J => ?_
  simp (maxSteps := 4000000) only [go_sem, St.start, Try.ntmps83, Try.results83]
  repeat (first | refine walkL_seq ?_ | refine walkL_skip ?_ | refine walkL_block ?_ | (refine walkL_region fun K hK => ?_; simp (maxSteps := 4000000) only [go_sem]; (repeat (first | (refine ⟨_, .lent (hf := f93 xs g caps q hq hl) (hd := rfl) (hr := rfl), ?_⟩; simp (maxSteps := 4000000) only [go_sem]) | (refine ⟨_, .given (hf := f93 xs g caps q hq hl) (hd := rfl) (ha := rfl), ?_⟩; simp (maxSteps := 4000000) only [go_sem]))); refine hK _ ?_; clear hK K) | refine walkL_nil ?_ | refine walkL_ret ?_ | refine walkL_exit ?_ | refine blockA_here ?_ | refine blockA_other rfl ?_ | refine blockA_ret ?_ | refine blockA_normal ?_ | refine thenA_ret ?_ | refine thenA_exit ?_ | refine thenA_normal ?_)
  simp (maxSteps := 4000000) only [go_sem, idxFrom_nonneg]

end Go.Ab
namespace Go.Ab
open Go.RowKit Go.Proofs

def latestF (opens : List Span) (b : Int) : Int := opens.foldl (fun last s => if s.lo ≤ b then max last (min s.hi b) else last) (-1)

theorem f49 (n : Net) (p : Party) (i : Nat) (x : Path) (b : Int) (hx : n.paths[i]? = some x) (hl : x.opens.length < 2 ^ 62) : Fn Try.prog 49 [.agg (walkCells n p), .i i, .i b] (.i (latestF x.opens (wr (b - (spanW x p).hi)))) := by
  refine fn_walk 40 Try.call49 Try.func49 rfl (by decide) fun J => ?_
  simp (maxSteps := 4000000) only [go_sem, St.start, Try.ntmps49, Try.results49, walkCells]
  repeat (first | refine walkL_seq ?_ | refine walkL_skip ?_ | refine walkL_block ?_ | (refine walkL_region fun K hK => ?_; simp (maxSteps := 4000000) only [go_sem, hx, List.getElem?_map, Path.row, Span.row]; (repeat (first | (refine ⟨_, .lent (hf := f51 n p i x hx) (hd := rfl) (hr := rfl), ?_⟩; simp (maxSteps := 4000000) only [go_sem, hx, List.getElem?_map, Path.row, Span.row]) | (refine ⟨_, .given (hf := f51 n p i x hx) (hd := rfl) (ha := rfl), ?_⟩; simp (maxSteps := 4000000) only [go_sem, hx, List.getElem?_map, Path.row, Span.row]))); refine hK _ ?_; clear hK K) | refine walkL_nil ?_ | refine walkL_ret ?_ | refine walkL_exit ?_ | refine blockA_here ?_ | refine blockA_other rfl ?_ | refine blockA_ret ?_ | refine blockA_normal ?_ | refine thenA_ret ?_ | refine thenA_exit ?_ | refine thenA_normal ?_)
  refine walkL_loopS (fun (j : Nat) => [(7, .d (.i (latestF (x.opens.take j) (wr (b - (spanW x p).hi))))), (24, .d (.i j))]) (fun _ => []) (fun j => j ≤ x.opens.length) (fun j => x.opens.length - j) 0 ?_ (Nat.zero_le _) ?_
  · simp (maxSteps := 4000000) only [go_sem]
    refine weak_of [] ?_ ?_ rfl rfl <;> simp [lessT, lessM, lessB, AV.less]
    rfl
  · intro j hj
    simp (maxSteps := 4000000) only [go_sem]
    repeat (first | refine walkL_seq ?_ | refine walkL_skip ?_ | refine walkL_block ?_ | (refine walkL_region fun K hK => ?_; simp (maxSteps := 4000000) only [go_sem]; refine hK _ ?_; clear hK K) | refine walkL_nil ?_ | refine walkL_ret ?_ | refine walkL_exit ?_ | refine blockA_here ?_ | refine blockA_other rfl ?_ | refine blockA_ret ?_ | refine blockA_normal ?_ | refine thenA_ret ?_ | refine thenA_exit ?_ | refine thenA_normal ?_)
    refine walkL_cond rfl (fun hb => ?_) (fun hb => ?_)
    · have hlt : j < x.opens.length := by simpa using hb
      obtain ⟨s, hs⟩ : ∃ s, x.opens[j]? = some s := ⟨_, List.getElem?_eq_getElem hlt⟩
      have hw : IntKind.i64.wrap ((j : Int) + 1) = ((j + 1 : Nat) : Int) := by rw [wr_small (by omega)]; simp
      have hn : latestF (x.opens.take (j + 1)) (wr (b - (spanW x p).hi)) = if s.lo ≤ wr (b - (spanW x p).hi) then max (latestF (x.opens.take j) (wr (b - (spanW x p).hi))) (min s.hi (wr (b - (spanW x p).hi))) else latestF (x.opens.take j) (wr (b - (spanW x p).hi)) := foldl_take_succ _ _ _ _ _ hs
      repeat (first | refine walkL_seq ?_ | refine walkL_skip ?_ | refine walkL_block ?_ | (refine walkL_region fun K hK => ?_; simp (maxSteps := 4000000) only [go_sem, hs, List.getElem?_map, Span.row, hw]; refine hK _ ?_; clear hK K) | refine walkL_nil ?_ | refine walkL_ret ?_ | refine walkL_exit ?_ | refine blockA_here ?_ | refine blockA_other rfl ?_ | refine blockA_ret ?_ | refine blockA_normal ?_ | refine thenA_ret ?_ | refine thenA_exit ?_ | refine thenA_normal ?_)
      refine walkL_cond rfl (fun hc => ?_) (fun hc => ?_)
      · have hc : s.lo ≤ wr (b - (spanW x p).hi) := by simpa using hc
        repeat (first | refine walkL_seq ?_ | refine walkL_skip ?_ | refine walkL_block ?_ | (refine walkL_region fun K hK => ?_; simp (maxSteps := 4000000) only [go_sem, hs, List.getElem?_map, Span.row, hw]; refine hK _ ?_; clear hK K) | refine walkL_nil ?_ | refine walkL_ret ?_ | refine walkL_exit ?_ | refine blockA_here ?_ | refine blockA_other rfl ?_ | refine blockA_ret ?_ | refine blockA_normal ?_ | refine thenA_ret ?_ | refine thenA_exit ?_ | refine thenA_normal ?_)
        refine ⟨rfl, j + 1, ?_, hlt, by omega⟩
        rw [hn, if_pos hc]
        refine weak_of [] ?_ ?_ rfl rfl <;> simp [lessT, lessM, lessB, AV.less]
      · have hc : ¬ s.lo ≤ wr (b - (spanW x p).hi) := by simpa using hc
        repeat (first | refine walkL_seq ?_ | refine walkL_skip ?_ | refine walkL_block ?_ | (refine walkL_region fun K hK => ?_; simp (maxSteps := 4000000) only [go_sem, hs, List.getElem?_map, Span.row, hw]; refine hK _ ?_; clear hK K) | refine walkL_nil ?_ | refine walkL_ret ?_ | refine walkL_exit ?_ | refine blockA_here ?_ | refine blockA_other rfl ?_ | refine blockA_ret ?_ | refine blockA_normal ?_ | refine thenA_ret ?_ | refine thenA_exit ?_ | refine thenA_normal ?_)
        refine ⟨rfl, j + 1, ?_, hlt, by omega⟩
        rw [hn, if_neg hc]
        refine weak_of [] ?_ ?_ rfl rfl <;> simp [lessT, lessM, lessB, AV.less]
    · have he : j = x.opens.length := by have : ¬ j < x.opens.length := by simpa using hb
                                         omega
      subst he
      repeat (first | refine walkL_seq ?_ | refine walkL_skip ?_ | refine walkL_block ?_ | (refine walkL_region fun K hK => ?_; simp (maxSteps := 4000000) only [go_sem]; refine hK _ ?_; clear hK K) | refine walkL_nil ?_ | refine walkL_ret ?_ | refine walkL_exit ?_ | refine blockA_here ?_ | refine blockA_other rfl ?_ | refine blockA_ret ?_ | refine blockA_normal ?_ | refine thenA_ret ?_ | refine thenA_exit ?_ | refine thenA_normal ?_)
      simp (maxSteps := 4000000) only [go_sem, List.take_length]

def arriveF (opens : List Span) (t time : Int) : Int := if wr (enterF opens t + time) > 2880 then 1073741824 else wr (enterF opens t + time)

theorem f50 (n : Net) (p : Party) (i : Nat) (x : Path) (t time : Int) (hx : n.paths[i]? = some x) (hl : x.opens.length < 2 ^ 62) : Fn Try.prog 50 [.agg (walkCells n p), .i i, .i t, .i time] (.i (arriveF x.opens t time)) := by
  refine fn_walk 42 Try.call50 Try.func50 rfl (by decide) fun J => ?_
  simp (maxSteps := 4000000) only [go_sem, St.start, Try.ntmps50, Try.results50, walkCells]
  repeat (first | refine walkL_seq ?_ | refine walkL_skip ?_ | refine walkL_block ?_ | (refine walkL_region fun K hK => ?_; simp (maxSteps := 4000000) only [go_sem, hx, List.getElem?_map, Path.row]; refine hK _ ?_; clear hK K) | refine walkL_nil ?_ | refine walkL_ret ?_ | refine walkL_exit ?_ | refine blockA_here ?_ | refine blockA_other rfl ?_ | refine blockA_ret ?_ | refine blockA_normal ?_ | refine thenA_ret ?_ | refine thenA_exit ?_ | refine thenA_normal ?_)
  refine walkL_loopS (fun (j : Nat) => [(9, .d (.i (enterF (x.opens.take j) t))), (20, .d (.i j))]) (fun _ => []) (fun j => j ≤ x.opens.length) (fun j => x.opens.length - j) 0 ?_ (Nat.zero_le _) ?_
  · simp (maxSteps := 4000000) only [go_sem]
    refine weak_of [] ?_ ?_ rfl rfl <;> simp [lessT, lessM, lessB, AV.less]
    rfl
  · intro j hj
    simp (maxSteps := 4000000) only [go_sem]
    repeat (first | refine walkL_seq ?_ | refine walkL_skip ?_ | refine walkL_block ?_ | (refine walkL_region fun K hK => ?_; simp (maxSteps := 4000000) only [go_sem]; refine hK _ ?_; clear hK K) | refine walkL_nil ?_ | refine walkL_ret ?_ | refine walkL_exit ?_ | refine blockA_here ?_ | refine blockA_other rfl ?_ | refine blockA_ret ?_ | refine blockA_normal ?_ | refine thenA_ret ?_ | refine thenA_exit ?_ | refine thenA_normal ?_)
    refine walkL_cond rfl (fun hb => ?_) (fun hb => ?_)
    · have hlt : j < x.opens.length := by simpa using hb
      obtain ⟨s, hs⟩ : ∃ s, x.opens[j]? = some s := ⟨_, List.getElem?_eq_getElem hlt⟩
      have hw : IntKind.i64.wrap ((j : Int) + 1) = ((j + 1 : Nat) : Int) := by rw [wr_small (by omega)]; simp
      have hn : enterF (x.opens.take (j + 1)) t = if t ≤ s.hi then min (enterF (x.opens.take j) t) (max t s.lo) else enterF (x.opens.take j) t := foldl_take_succ _ _ _ _ _ hs
      repeat (first | refine walkL_seq ?_ | refine walkL_skip ?_ | refine walkL_block ?_ | (refine walkL_region fun K hK => ?_; simp (maxSteps := 4000000) only [go_sem, hs, List.getElem?_map, Span.row, hw]; refine hK _ ?_; clear hK K) | refine walkL_nil ?_ | refine walkL_ret ?_ | refine walkL_exit ?_ | refine blockA_here ?_ | refine blockA_other rfl ?_ | refine blockA_ret ?_ | refine blockA_normal ?_ | refine thenA_ret ?_ | refine thenA_exit ?_ | refine thenA_normal ?_)
      refine walkL_cond rfl (fun hc => ?_) (fun hc => ?_)
      · have hc : t ≤ s.hi := by simpa using hc
        repeat (first | refine walkL_seq ?_ | refine walkL_skip ?_ | refine walkL_block ?_ | (refine walkL_region fun K hK => ?_; simp (maxSteps := 4000000) only [go_sem, hs, List.getElem?_map, Span.row, hw]; refine hK _ ?_; clear hK K) | refine walkL_nil ?_ | refine walkL_ret ?_ | refine walkL_exit ?_ | refine blockA_here ?_ | refine blockA_other rfl ?_ | refine blockA_ret ?_ | refine blockA_normal ?_ | refine thenA_ret ?_ | refine thenA_exit ?_ | refine thenA_normal ?_)
        refine ⟨rfl, j + 1, ?_, hlt, by omega⟩
        rw [hn, if_pos hc]
        refine weak_of [] ?_ ?_ rfl rfl <;> simp [lessT, lessM, lessB, AV.less]
      · have hc : ¬ t ≤ s.hi := by simpa using hc
        repeat (first | refine walkL_seq ?_ | refine walkL_skip ?_ | refine walkL_block ?_ | (refine walkL_region fun K hK => ?_; simp (maxSteps := 4000000) only [go_sem, hs, List.getElem?_map, Span.row, hw]; refine hK _ ?_; clear hK K) | refine walkL_nil ?_ | refine walkL_ret ?_ | refine walkL_exit ?_ | refine blockA_here ?_ | refine blockA_other rfl ?_ | refine blockA_ret ?_ | refine blockA_normal ?_ | refine thenA_ret ?_ | refine thenA_exit ?_ | refine thenA_normal ?_)
        refine ⟨rfl, j + 1, ?_, hlt, by omega⟩
        rw [hn, if_neg hc]
        refine weak_of [] ?_ ?_ rfl rfl <;> simp [lessT, lessM, lessB, AV.less]
    · have he : j = x.opens.length := by have : ¬ j < x.opens.length := by simpa using hb
                                         omega
      subst he
      repeat (first | refine walkL_seq ?_ | refine walkL_skip ?_ | refine walkL_block ?_ | (refine walkL_region fun K hK => ?_; simp (maxSteps := 4000000) only [go_sem, List.take_length]; refine hK _ ?_; clear hK K) | refine walkL_nil ?_ | refine walkL_ret ?_ | refine walkL_exit ?_ | refine blockA_here ?_ | refine blockA_other rfl ?_ | refine blockA_ret ?_ | refine blockA_normal ?_ | refine thenA_ret ?_ | refine thenA_exit ?_ | refine thenA_normal ?_)
      refine walkL_cond rfl (fun hc => ?_) (fun hc => ?_)
      · have hc : wr (enterF x.opens t + time) > 2880 := by simpa using hc
        repeat (first | refine walkL_seq ?_ | refine walkL_skip ?_ | refine walkL_block ?_ | (refine walkL_region fun K hK => ?_; simp (maxSteps := 4000000) only [go_sem, List.take_length]; refine hK _ ?_; clear hK K) | refine walkL_nil ?_ | refine walkL_ret ?_ | refine walkL_exit ?_ | refine blockA_here ?_ | refine blockA_other rfl ?_ | refine blockA_ret ?_ | refine blockA_normal ?_ | refine thenA_ret ?_ | refine thenA_exit ?_ | refine thenA_normal ?_)
        simp (maxSteps := 4000000) only [go_sem, arriveF, hc]
      · have hc : ¬ wr (enterF x.opens t + time) > 2880 := by simpa using hc
        repeat (first | refine walkL_seq ?_ | refine walkL_skip ?_ | refine walkL_block ?_ | (refine walkL_region fun K hK => ?_; simp (maxSteps := 4000000) only [go_sem, List.take_length]; refine hK _ ?_; clear hK K) | refine walkL_nil ?_ | refine walkL_ret ?_ | refine walkL_exit ?_ | refine blockA_here ?_ | refine blockA_other rfl ?_ | refine blockA_ret ?_ | refine blockA_normal ?_ | refine thenA_ret ?_ | refine thenA_exit ?_ | refine thenA_normal ?_)
        simp (maxSteps := 4000000) only [go_sem, arriveF, hc]

def stepF (x : Path) (p : Party) (t : Int) (high : Bool) : Int :=
  if enterF x.opens t ≥ 1073741824 then 1073741824 else
    let a := wr (enterF x.opens t + if high then (spanW x p).hi else (spanW x p).lo)
    if a > 2880 then 1073741824 else a

theorem f35 (n : Net) (p : Party) (i : Nat) (x : Path) (t : Int) (high : Bool) (hx : n.paths[i]? = some x) (hl : x.opens.length < 2 ^ 62) : Fn Try.prog 35 [.agg n.cells, .agg p.cells, .i i, .i t, .bool high] (.i (stepF x p t high)) := by
  refine fn_walk 39 Try.call35 Try.func35 rfl (by decide) fun J => ?_
  simp (maxSteps := 4000000) only [go_sem, St.start, Try.ntmps35, Try.results35, Net.cells, Party.cells]
  repeat (first | refine walkL_seq ?_ | refine walkL_skip ?_ | refine walkL_block ?_ | (refine walkL_region fun K hK => ?_; simp (maxSteps := 4000000) only [go_sem, hx, List.getElem?_map, Path.row]; (repeat (first | (refine ⟨_, .lent (hf := f62 x t hl) (hd := rfl) (hr := rfl), ?_⟩; simp (maxSteps := 4000000) only [go_sem, hx, List.getElem?_map, Path.row]) | (refine ⟨_, .given (hf := f62 x t hl) (hd := rfl) (ha := rfl), ?_⟩; simp (maxSteps := 4000000) only [go_sem, hx, List.getElem?_map, Path.row]))); refine hK _ ?_; clear hK K) | refine walkL_nil ?_ | refine walkL_ret ?_ | refine walkL_exit ?_ | refine blockA_here ?_ | refine blockA_other rfl ?_ | refine blockA_ret ?_ | refine blockA_normal ?_ | refine thenA_ret ?_ | refine thenA_exit ?_ | refine thenA_normal ?_)
  refine walkL_cond rfl (fun hc => ?_) (fun hc => ?_)
  · have hc : enterF x.opens t ≥ 1073741824 := by simpa using hc
    repeat (first | refine walkL_seq ?_ | refine walkL_skip ?_ | refine walkL_block ?_ | (refine walkL_region fun K hK => ?_; simp (maxSteps := 4000000) only [go_sem]; refine hK _ ?_; clear hK K) | refine walkL_nil ?_ | refine walkL_ret ?_ | refine walkL_exit ?_ | refine blockA_here ?_ | refine blockA_other rfl ?_ | refine blockA_ret ?_ | refine blockA_normal ?_ | refine thenA_ret ?_ | refine thenA_exit ?_ | refine thenA_normal ?_)
    simp (maxSteps := 4000000) only [go_sem, stepF, hc]
  · have hc : ¬ enterF x.opens t ≥ 1073741824 := by simpa using hc
    repeat (first | refine walkL_seq ?_ | refine walkL_skip ?_ | refine walkL_block ?_ | (refine walkL_region fun K hK => ?_; simp (maxSteps := 4000000) only [go_sem, Span.row]; (repeat (first | (refine ⟨_, .lent (hf := f24 n p i x hx) (hd := rfl) (hr := rfl), ?_⟩; simp (maxSteps := 4000000) only [go_sem, Span.row]) | (refine ⟨_, .given (hf := f24 n p i x hx) (hd := rfl) (ha := rfl), ?_⟩; simp (maxSteps := 4000000) only [go_sem, Span.row]))); refine hK _ ?_; clear hK K) | refine walkL_nil ?_ | refine walkL_ret ?_ | refine walkL_exit ?_ | refine blockA_here ?_ | refine blockA_other rfl ?_ | refine blockA_ret ?_ | refine blockA_normal ?_ | refine thenA_ret ?_ | refine thenA_exit ?_ | refine thenA_normal ?_)
    cases high
    · refine walkL_false rfl ?_
      repeat (first | refine walkL_seq ?_ | refine walkL_skip ?_ | refine walkL_block ?_ | (refine walkL_region fun K hK => ?_; simp (maxSteps := 4000000) only [go_sem]; refine hK _ ?_; clear hK K) | refine walkL_nil ?_ | refine walkL_ret ?_ | refine walkL_exit ?_ | refine blockA_here ?_ | refine blockA_other rfl ?_ | refine blockA_ret ?_ | refine blockA_normal ?_ | refine thenA_ret ?_ | refine thenA_exit ?_ | refine thenA_normal ?_)
      refine walkL_cond rfl (fun hd => ?_) (fun hd => ?_)
      · have hd : wr (enterF x.opens t + (spanW x p).lo) > 2880 := by simpa using hd
        repeat (first | refine walkL_seq ?_ | refine walkL_skip ?_ | refine walkL_block ?_ | (refine walkL_region fun K hK => ?_; simp (maxSteps := 4000000) only [go_sem]; refine hK _ ?_; clear hK K) | refine walkL_nil ?_ | refine walkL_ret ?_ | refine walkL_exit ?_ | refine blockA_here ?_ | refine blockA_other rfl ?_ | refine blockA_ret ?_ | refine blockA_normal ?_ | refine thenA_ret ?_ | refine thenA_exit ?_ | refine thenA_normal ?_)
        simp (maxSteps := 4000000) only [go_sem, stepF, hc, hd]
      · have hd : ¬ wr (enterF x.opens t + (spanW x p).lo) > 2880 := by simpa using hd
        repeat (first | refine walkL_seq ?_ | refine walkL_skip ?_ | refine walkL_block ?_ | (refine walkL_region fun K hK => ?_; simp (maxSteps := 4000000) only [go_sem]; refine hK _ ?_; clear hK K) | refine walkL_nil ?_ | refine walkL_ret ?_ | refine walkL_exit ?_ | refine blockA_here ?_ | refine blockA_other rfl ?_ | refine blockA_ret ?_ | refine blockA_normal ?_ | refine thenA_ret ?_ | refine thenA_exit ?_ | refine thenA_normal ?_)
        simp (maxSteps := 4000000) only [go_sem, stepF, hc, hd]
    · refine walkL_true rfl ?_
      repeat (first | refine walkL_seq ?_ | refine walkL_skip ?_ | refine walkL_block ?_ | (refine walkL_region fun K hK => ?_; simp (maxSteps := 4000000) only [go_sem]; refine hK _ ?_; clear hK K) | refine walkL_nil ?_ | refine walkL_ret ?_ | refine walkL_exit ?_ | refine blockA_here ?_ | refine blockA_other rfl ?_ | refine blockA_ret ?_ | refine blockA_normal ?_ | refine thenA_ret ?_ | refine thenA_exit ?_ | refine thenA_normal ?_)
      refine walkL_cond rfl (fun hd => ?_) (fun hd => ?_)
      · have hd : wr (enterF x.opens t + (spanW x p).hi) > 2880 := by simpa using hd
        repeat (first | refine walkL_seq ?_ | refine walkL_skip ?_ | refine walkL_block ?_ | (refine walkL_region fun K hK => ?_; simp (maxSteps := 4000000) only [go_sem]; refine hK _ ?_; clear hK K) | refine walkL_nil ?_ | refine walkL_ret ?_ | refine walkL_exit ?_ | refine blockA_here ?_ | refine blockA_other rfl ?_ | refine blockA_ret ?_ | refine blockA_normal ?_ | refine thenA_ret ?_ | refine thenA_exit ?_ | refine thenA_normal ?_)
        simp (maxSteps := 4000000) only [go_sem, stepF, hc, hd]
      · have hd : ¬ wr (enterF x.opens t + (spanW x p).hi) > 2880 := by simpa using hd
        repeat (first | refine walkL_seq ?_ | refine walkL_skip ?_ | refine walkL_block ?_ | (refine walkL_region fun K hK => ?_; simp (maxSteps := 4000000) only [go_sem]; refine hK _ ?_; clear hK K) | refine walkL_nil ?_ | refine walkL_ret ?_ | refine walkL_exit ?_ | refine blockA_here ?_ | refine blockA_other rfl ?_ | refine blockA_ret ?_ | refine blockA_normal ?_ | refine thenA_ret ?_ | refine thenA_exit ?_ | refine thenA_normal ?_)
        simp (maxSteps := 4000000) only [go_sem, stepF, hc, hd]
end Go.Ab
namespace Go.Ab
open Go.RowKit Go.Proofs

/-- The paths that the party can walk, but one. -/
def waysFrom (p : Party) (but : Int) : List Path → Nat → List (Nat × Path)
  | [], _ => []
  | x :: xs, i => if (i : Int) ≠ but ∧ x.grade ≤ p.grade then (i, x) :: waysFrom p but xs (i + 1) else waysFrom p but xs (i + 1)

def waysL (n : Net) (p : Party) (but : Int) : List (Nat × Path) := waysFrom p but n.paths 0
def wayRow (x : Nat × Path) : List DV := [.i x.1, .agg x.2.row]

theorem f48 (n : Net) (p : Party) (but : Int) : Fn Try.prog 48 [.agg (walkCells n p), .i but] (.fn 87 [.ptr (walkCells n p) 0, .ptr [.i but] 0]) := by
  refine fn_walk 6 Try.call48 Try.func48 rfl (by decide) fun J => ?_
  simp (maxSteps := 4000000) only [go_sem, St.start, Try.ntmps48, Try.results48, walkCells]
  repeat (first | refine walkL_seq ?_ | refine walkL_skip ?_ | refine walkL_block ?_ | (refine walkL_region fun K hK => ?_; simp (maxSteps := 4000000) only [go_sem]; refine hK _ ?_; clear hK K) | refine walkL_nil ?_ | refine walkL_ret ?_ | refine walkL_exit ?_ | refine blockA_here ?_ | refine blockA_other rfl ?_ | refine blockA_ret ?_ | refine blockA_normal ?_ | refine thenA_ret ?_ | refine thenA_exit ?_ | refine thenA_normal ?_)
  simp (maxSteps := 4000000) only [go_sem, walkCells]

theorem iter87 (n : Net) (p : Party) (but : Int) (hl : n.paths.length < 2 ^ 62) : Iter Try.prog 87 [.ptr (walkCells n p) 0, .ptr [.i but] 0] ((waysL n p but).map wayRow) := by
  refine iter_walk 31 Try.call87 Try.func87 rfl rfl fun l J B hS hG => ?_
  simp (maxSteps := 4000000) only [go_sem, St.start, Try.ntmps87, walkCells]
  repeat (first | refine walkL_seq ?_ | refine walkL_skip ?_ | refine walkL_block ?_ | (refine walkL_region fun K hK => ?_; simp (maxSteps := 4000000) only [go_sem]; refine hK _ ?_; clear hK K) | refine walkL_nil ?_ | refine walkL_ret ?_ | refine walkL_exit ?_ | refine blockA_here ?_ | refine blockA_other rfl ?_ | refine blockA_ret ?_ | refine blockA_normal ?_ | refine thenA_ret ?_ | refine thenA_exit ?_ | refine thenA_normal ?_)
  refine walkL_loopK (fun (j : Nat) => [(10, .d (.i j))]) (fun _ => []) (fun k j => j ≤ n.paths.length ∧ ∃ kk, k = some kk ∧ kk ≤ (waysL n p but).length ∧ (waysL n p but).drop kk = waysFrom p but (n.paths.drop j) j) (fun j => n.paths.length - j) 0 ?_ ⟨Nat.zero_le _, 0, rfl, Nat.zero_le _, rfl⟩ ?_
  · simp (maxSteps := 4000000) only [go_sem]
    refine weak_of [] ?_ ?_ rfl rfl <;> simp [lessT, lessM, lessB, AV.less]
  · rintro k j ⟨hj, kk, rfl, hkk, hd⟩
    simp (maxSteps := 4000000) only [go_sem]
    repeat (first | refine walkL_seq ?_ | refine walkL_skip ?_ | refine walkL_block ?_ | (refine walkL_region fun K hK => ?_; simp (maxSteps := 4000000) only [go_sem]; refine hK _ ?_; clear hK K) | refine walkL_nil ?_ | refine walkL_ret ?_ | refine walkL_exit ?_ | refine blockA_here ?_ | refine blockA_other rfl ?_ | refine blockA_ret ?_ | refine blockA_normal ?_ | refine thenA_ret ?_ | refine thenA_exit ?_ | refine thenA_normal ?_)
    refine walkL_cond rfl (fun hb => ?_) (fun hb => ?_)
    · have hlt : j < n.paths.length := by simpa using hb
      obtain ⟨x, hx⟩ : ∃ x, n.paths[j]? = some x := ⟨_, List.getElem?_eq_getElem hlt⟩
      have hw : IntKind.i64.wrap ((j : Int) + 1) = ((j + 1 : Nat) : Int) := by rw [wr_small (by omega)]; simp
      rw [drop_get hx, waysFrom] at hd
      have h74 := f74 n p j x hx
      repeat (first | refine walkL_seq ?_ | refine walkL_skip ?_ | refine walkL_block ?_ | (refine walkL_region fun K hK => ?_; simp (maxSteps := 4000000) only [go_sem, hx, List.getElem?_map, Path.row]; refine hK _ ?_; clear hK K) | refine walkL_nil ?_ | refine walkL_ret ?_ | refine walkL_exit ?_ | refine blockA_here ?_ | refine blockA_other rfl ?_ | refine blockA_ret ?_ | refine blockA_normal ?_ | refine thenA_ret ?_ | refine thenA_exit ?_ | refine thenA_normal ?_)
      refine walkL_regionY hS hG fun K hK => ?_
      by_cases hbut : (j : Int) = but
      · have hbe : ((j : Int) != but) = false := by simp [hbut]
        rw [if_neg (by simp [hbut])] at hd
        simp (maxSteps := 4000000) only [go_sem, hbe]
        refine hK _ _ ?_
        clear hK K
        refine walkL_false rfl ?_
        repeat (first | refine walkL_seq ?_ | refine walkL_skip ?_ | refine walkL_block ?_ | (refine walkL_region fun K hK => ?_; simp (maxSteps := 4000000) only [go_sem, hw]; refine hK _ ?_; clear hK K) | refine walkL_nil ?_ | refine walkL_ret ?_ | refine walkL_exit ?_ | refine blockA_here ?_ | refine blockA_other rfl ?_ | refine blockA_ret ?_ | refine blockA_normal ?_ | refine thenA_ret ?_ | refine thenA_exit ?_ | refine thenA_normal ?_)
        refine ⟨j + 1, ?_, ⟨hlt, kk, rfl, hkk, hd⟩, by omega⟩
        refine weak_of [] ?_ ?_ rfl rfl <;> simp [lessT, lessM, lessB, AV.less]
      · have hbe : ((j : Int) != but) = true := by simpa using hbut
        simp (maxSteps := 4000000) only [go_sem, hbe]
        refine ⟨_, .lent (hf := h74) (hd := rfl) (hr := rfl), ?_⟩
        by_cases hg : x.grade ≤ p.grade
        · rw [if_pos ⟨hbut, hg⟩] at hd
          have hkl : kk < (waysL n p but).length := by
            rcases Nat.lt_or_ge kk (waysL n p but).length with h | h
            · exact h
            · rw [List.drop_eq_nil_of_le h] at hd; cases hd
          have hget : (waysL n p but)[kk]? = some (j, x) := by
            have := congrArg (fun l => l[0]?) hd
            simpa using this
          have hd2 : (waysL n p but).drop (kk + 1) = waysFrom p but (n.paths.drop (j + 1)) (j + 1) := by
            have := congrArg (List.drop 1) hd
            simpa [Nat.add_comm] using this
          simp (maxSteps := 4000000) only [go_sem, hg]
          refine ⟨rfl, kk, wayRow (j, x), rfl, rfl, by rw [List.getElem?_map, hget]; rfl, ?_, ?_⟩
          · simp (maxSteps := 4000000) only [go_sem]
            refine hK _ _ ?_
            clear hK K
            refine walkL_false rfl ?_
            repeat (first | refine walkL_seq ?_ | refine walkL_skip ?_ | refine walkL_block ?_ | (refine walkL_region fun K hK => ?_; simp (maxSteps := 4000000) only [go_sem, hw]; refine hK _ ?_; clear hK K) | refine walkL_nil ?_ | refine walkL_ret ?_ | refine walkL_exit ?_ | refine blockA_here ?_ | refine blockA_other rfl ?_ | refine blockA_ret ?_ | refine blockA_normal ?_ | refine thenA_ret ?_ | refine thenA_exit ?_ | refine thenA_normal ?_)
            refine ⟨j + 1, ?_, ⟨hlt, kk + 1, rfl, hkl, hd2⟩, by omega⟩
            refine weak_of [] ?_ ?_ rfl rfl <;> simp [lessT, lessM, lessB, AV.less]
          · simp (maxSteps := 4000000) only [go_sem]
            refine hK _ _ ?_
            clear hK K
            refine walkL_true rfl ?_
            repeat (first | refine walkL_seq ?_ | refine walkL_skip ?_ | refine walkL_block ?_ | (refine walkL_region fun K hK => ?_; simp (maxSteps := 4000000) only [go_sem]; refine hK _ ?_; clear hK K) | refine walkL_nil ?_ | refine walkL_ret ?_ | refine walkL_exit ?_ | refine blockA_here ?_ | refine blockA_other rfl ?_ | refine blockA_ret ?_ | refine blockA_normal ?_ | refine thenA_ret ?_ | refine thenA_exit ?_ | refine thenA_normal ?_)
            exact ⟨trivial, .inr rfl⟩
        · rw [if_neg (by simp [hg])] at hd
          simp (maxSteps := 4000000) only [go_sem, hg]
          refine hK _ _ ?_
          clear hK K
          refine walkL_false rfl ?_
          repeat (first | refine walkL_seq ?_ | refine walkL_skip ?_ | refine walkL_block ?_ | (refine walkL_region fun K hK => ?_; simp (maxSteps := 4000000) only [go_sem, hw]; refine hK _ ?_; clear hK K) | refine walkL_nil ?_ | refine walkL_ret ?_ | refine walkL_exit ?_ | refine blockA_here ?_ | refine blockA_other rfl ?_ | refine blockA_ret ?_ | refine blockA_normal ?_ | refine thenA_ret ?_ | refine thenA_exit ?_ | refine thenA_normal ?_)
          refine ⟨j + 1, ?_, ⟨hlt, kk, rfl, hkk, hd⟩, by omega⟩
          refine weak_of [] ?_ ?_ rfl rfl <;> simp [lessT, lessM, lessB, AV.less]
    · have he : j = n.paths.length := by have : ¬ j < n.paths.length := by simpa using hb
                                         omega
      subst he
      repeat (first | refine walkL_seq ?_ | refine walkL_skip ?_ | refine walkL_block ?_ | (refine walkL_region fun K hK => ?_; simp (maxSteps := 4000000) only [go_sem]; refine hK _ ?_; clear hK K) | refine walkL_nil ?_ | refine walkL_ret ?_ | refine walkL_exit ?_ | refine blockA_here ?_ | refine blockA_other rfl ?_ | refine blockA_ret ?_ | refine blockA_normal ?_ | refine thenA_ret ?_ | refine thenA_exit ?_ | refine thenA_normal ?_)
      refine ⟨trivial, .inl ?_⟩
      rw [List.drop_length, waysFrom, List.drop_eq_nil_iff] at hd
      simp only [List.length_map, Option.some.injEq]
      omega
end Go.Ab
namespace Go.Ab
open Go.RowKit Go.Proofs

theorem mask_nat (m : Nat) (h : m < 2 ^ 32) : bAnd .u64 (m : Int) 4294967295 = (m : Int) := by
  have h1 : (BitVec.ofInt 64 (m : Int) &&& BitVec.ofInt 64 4294967295).toNat = m := by
    rw [BitVec.toNat_and]
    have e1 : (BitVec.ofInt 64 (m : Int)).toNat = m := by simp [BitVec.toNat_ofInt]; omega
    have e2 : (BitVec.ofInt 64 4294967295).toNat = 2 ^ 32 - 1 := by decide
    rw [e1, e2, Nat.and_two_pow_sub_one_eq_mod, Nat.mod_eq_of_lt h]
  show IntKind.u64.wrap ((BitVec.ofInt 64 (m : Int) &&& BitVec.ofInt 64 4294967295).toNat : Int) = (m : Int)
  rw [h1, IntKind.wrap_u64]
  omega

theorem wu_small (m : Nat) (h : m < 2 ^ 63) : IntKind.u64.wrap (m : Int) = (m : Int) := by rw [IntKind.wrap_u64]; omega

theorem f95 (m : Nat) (h : m < 2 ^ 32) : Fn Try.prog 95 [.int .u64 1, .int .u64 m] (.tup [.int .u64 0, .int .u64 m]) := by
  refine fn_walk 51 Try.call95 Try.func95 rfl (by decide) fun J => ?_
  simp (maxSteps := 4000000) only [go_sem, St.start, Try.ntmps95, Try.results95]
  have h1 : bAnd .u64 1 4294967295 = 1 := by decide
  have h2 : bAnd .u64 (m : Int) 4294967295 = m := mask_nat m h
  have h3 : IntKind.u64.wrap (m : Int) = m := wu_small m (by omega)
  have h4 : bShr .u64 (m : Int) 32 = 0 := by
    show Int.fdiv (m : Int) 4294967296 = 0
    rw [Int.fdiv_eq_ediv_of_nonneg _ (by omega)]
    omega
  have h5 : bShr .u64 1 32 = 0 := by decide
  have h6 : bShr .u64 0 32 = 0 := by decide
  have h7 : IntKind.u64.wrap (0 : Int) = 0 := by decide
  have h8 : bAnd .u64 0 4294967295 = 0 := by decide
  repeat (first | refine walkL_seq ?_ | refine walkL_skip ?_ | refine walkL_block ?_ | (refine walkL_region fun K hK => ?_; simp (maxSteps := 4000000) only [go_sem, h1, h2, h3, h4, h5, h6, h7, h8, Int.one_mul, Int.mul_one, Int.zero_mul, Int.mul_zero, Int.add_zero, Int.zero_add]; refine hK _ ?_; clear hK K) | refine walkL_nil ?_ | refine walkL_ret ?_ | refine walkL_exit ?_ | refine blockA_here ?_ | refine blockA_other rfl ?_ | refine blockA_ret ?_ | refine blockA_normal ?_ | refine thenA_ret ?_ | refine thenA_exit ?_ | refine thenA_normal ?_)
  simp (maxSteps := 4000000) only [go_sem]

theorem f86 (m : Nat) (h : m < 2 ^ 32) : Fn Try.prog 86 [.int .u64 1, .int .u64 m] (.tup [.int .u64 0, .int .u64 m]) := by
  refine fn_walk 30 Try.call86 Try.func86 rfl (by decide) fun J => ?_
  simp (maxSteps := 4000000) only [go_sem, St.start, Try.ntmps86, Try.results86]
  repeat (first | refine walkL_seq ?_ | refine walkL_skip ?_ | refine walkL_block ?_ | (refine walkL_region fun K hK => ?_; simp (maxSteps := 4000000) only [go_sem]; refine hK _ ?_; clear hK K) | refine walkL_nil ?_ | refine walkL_ret ?_ | refine walkL_exit ?_ | refine blockA_here ?_ | refine blockA_other rfl ?_ | refine blockA_ret ?_ | refine blockA_normal ?_ | refine thenA_ret ?_ | refine thenA_exit ?_ | refine thenA_normal ?_)
  refine walkL_false rfl ?_
  repeat (first | refine walkL_seq ?_ | refine walkL_skip ?_ | refine walkL_block ?_ | (refine walkL_region fun K hK => ?_; simp (maxSteps := 4000000) only [go_sem]; (repeat (first | (refine ⟨_, .lent (hf := f95 m h) (hd := rfl) (hr := rfl), ?_⟩; simp (maxSteps := 4000000) only [go_sem]) | (refine ⟨_, .given (hf := f95 m h) (hd := rfl) (ha := rfl), ?_⟩; simp (maxSteps := 4000000) only [go_sem]))); refine hK _ ?_; clear hK K) | refine walkL_nil ?_ | refine walkL_ret ?_ | refine walkL_exit ?_ | refine blockA_here ?_ | refine blockA_other rfl ?_ | refine blockA_ret ?_ | refine blockA_normal ?_ | refine thenA_ret ?_ | refine thenA_exit ?_ | refine thenA_normal ?_)
  simp (maxSteps := 4000000) only [go_sem]

/-- So many elements are filled. -/
def filled (c : Int) (m i : Nat) : List (List DV) := List.replicate i [.i c] ++ List.replicate (m - i) [.i 0]

theorem filled_len (c : Int) (m i : Nat) (h : i ≤ m) : (filled c m i).length = m := by simp [filled]; omega

theorem filled_take (c : Int) (m i : Nat) : (filled c m i).take i = List.replicate i [.i c] := by simp [filled, List.take_append]

theorem filled_drop (c : Int) (m i k : Nat) : (filled c m i).drop (i + k) = List.replicate (m - (i + k)) [.i 0] := by
  simp only [filled, List.drop_append, List.length_replicate, List.drop_replicate]
  rw [show i - (i + k) = 0 by omega, show i + k - i = k by omega, show m - i - k = m - (i + k) by omega]
  rfl

theorem filled_step (c : Int) (m i k : Nat) (hk : k ≤ i) : (filled c m i).take i ++ ((List.replicate i [DV.i c]).take k ++ (filled c m i).drop (i + k)) = filled c m (i + k) := by
  rw [filled_take, filled_drop, List.take_replicate, show min k i = k by omega, ← List.append_assoc, List.replicate_append_replicate]
  rfl

theorem filled_init (c : Int) (m : Nat) : List.take (min 1 m) [[DV.i c]] ++ List.drop (min 1 m) (List.replicate m [DV.i 0]) = filled c m (min 1 m) := by
  rcases Nat.eq_zero_or_pos m with h | h
  · subst h; rfl
  · rw [show min 1 m = 1 by omega]
    simp [filled]

theorem f47 (c : Int) (m : Nat) (h : m < 2 ^ 30) : FnS Try.prog 47 [.sl [[.i c]], .i m] 3 1 (List.replicate m [.i c]) := by
  refine fnS_walk 48 Try.call47 Try.func47 rfl (by decide) fun J => ?_
  simp (maxSteps := 4000000) only [go_sem, St.start, Try.ntmps47, Try.results47]
  have h1 : ¬ ((m : Int) < 0) := by omega
  have h2 : IntKind.u64.wrap (m : Int) = m := wu_small m (by omega)
  have h3 : IntKind.i64.wrap (m : Int) = m := wr_small (by omega)
  have h4 : ¬ (9223372036854775807 < (m : Int)) := by omega
  have h5 : IntKind.u64.wrap (1 : Int) = 1 := by decide
  have h6 : (m : Int) ≤ 2 ^ 40 := by omega
  repeat (first | refine walkL_seq ?_ | refine walkL_skip ?_ | refine walkL_block ?_ | (refine walkL_region fun K hK => ?_; simp (maxSteps := 4000000) only [go_sem, h1]; refine hK _ ?_; clear hK K) | refine walkL_nil ?_ | refine walkL_ret ?_ | refine walkL_exit ?_ | refine blockA_here ?_ | refine blockA_other rfl ?_ | refine blockA_ret ?_ | refine blockA_normal ?_ | refine thenA_ret ?_ | refine thenA_exit ?_ | refine thenA_normal ?_)
  refine walkL_false rfl ?_
  repeat (first | refine walkL_seq ?_ | refine walkL_skip ?_ | refine walkL_block ?_ | (refine walkL_region fun K hK => ?_; simp (maxSteps := 4000000) only [go_sem, h2, h5, h4, gt_iff_lt, Int.lt_irrefl]; (repeat (first | (refine ⟨_, .lent (hf := f86 m (by omega)) (hd := rfl) (hr := rfl), ?_⟩; simp (maxSteps := 4000000) only [go_sem, h2, h5, h4, gt_iff_lt, Int.lt_irrefl]) | (refine ⟨_, .given (hf := f86 m (by omega)) (hd := rfl) (ha := rfl), ?_⟩; simp (maxSteps := 4000000) only [go_sem, h2, h5, h4, gt_iff_lt, Int.lt_irrefl]))); refine hK _ ?_; clear hK K) | refine walkL_nil ?_ | refine walkL_ret ?_ | refine walkL_exit ?_ | refine blockA_here ?_ | refine blockA_other rfl ?_ | refine blockA_ret ?_ | refine blockA_normal ?_ | refine thenA_ret ?_ | refine thenA_exit ?_ | refine thenA_normal ?_)
  refine walkL_false rfl ?_
  have h7 : (m : Int) ≤ 1099511627776 := by omega
  repeat (first | refine walkL_seq ?_ | refine walkL_skip ?_ | refine walkL_block ?_ | (refine walkL_region fun K hK => ?_; simp (maxSteps := 4000000) only [go_sem, h3, h7, h1]; refine hK _ ?_; clear hK K) | refine walkL_nil ?_ | refine walkL_ret ?_ | refine walkL_exit ?_ | refine blockA_here ?_ | refine blockA_other rfl ?_ | refine blockA_ret ?_ | refine blockA_normal ?_ | refine thenA_ret ?_ | refine thenA_exit ?_ | refine thenA_normal ?_)
  refine walkL_loopS (fun (i : Nat) => [(7, .own 30), (30, .own 30), (31, .own 30), (8, .d (.i i))]) (fun i => [(30, some (.arr 3 1 (filled c m i)))]) (fun i => i ≤ m ∧ (i = 0 → m = 0)) (fun i => m - i) (min 1 m) ?_ (by omega) ?_
  · simp (maxSteps := 4000000) only [go_sem]
    rw [show List.take (min 1 m) [[DV.i c]] ++ List.drop (min 1 m) (List.replicate m [DV.int IntKind.i64 0]) = filled c m (min 1 m) from filled_init c m]
    refine weak_of [] ?_ ?_ rfl rfl <;> simp [lessT, lessM, lessB, AV.less]
  · intro i ⟨hi, hi0⟩
    have hl := filled_len c m i hi
    simp (maxSteps := 4000000) only [go_sem]
    repeat (first | refine walkL_seq ?_ | refine walkL_skip ?_ | refine walkL_block ?_ | (refine walkL_region fun K hK => ?_; simp (maxSteps := 4000000) only [go_sem, hl]; refine hK _ ?_; clear hK K) | refine walkL_nil ?_ | refine walkL_ret ?_ | refine walkL_exit ?_ | refine blockA_here ?_ | refine blockA_other rfl ?_ | refine blockA_ret ?_ | refine blockA_normal ?_ | refine thenA_ret ?_ | refine thenA_exit ?_ | refine thenA_normal ?_)
    refine walkL_cond rfl (fun hb => ?_) (fun hb => ?_)
    · have hlt : i < m := by simpa using hb
      have e1 : (i : Int) ≤ (m : Int) := by omega
      have e2 : i + (m - i) ≤ m := by omega
      have e3 : i ≤ m := hi
      have e4 : min i (m - i) ≤ i := by omega
      have hs := filled_step c m i (min i (m - i)) e4
      have hw : IntKind.i64.wrap ((i : Int) + ((min i (m - i) : Nat) : Int)) = ((i + min i (m - i) : Nat) : Int) := by rw [wr_small (by omega)]; simp
      rw [filled_take] at hs
      have e5 : ∀ k, headIs 1 (List.replicate k [DV.i c]) = true := fun k => by cases k <;> rfl
      repeat (first | refine walkL_seq ?_ | refine walkL_skip ?_ | refine walkL_block ?_ | (refine walkL_region fun K hK => ?_; simp (maxSteps := 4000000) only [go_sem]; refine hK _ ?_; clear hK K) | refine walkL_nil ?_ | refine walkL_ret ?_ | refine walkL_exit ?_ | refine blockA_here ?_ | refine blockA_other rfl ?_ | refine blockA_ret ?_ | refine blockA_normal ?_ | refine thenA_ret ?_ | refine thenA_exit ?_ | refine thenA_normal ?_)
      refine walkL_drawn (by kernel_rfl) (by kernel_rfl) fun K hK => ?_
      simp (maxSteps := 4000000) only [go_sem, hl, e1, e2, e3, hw, filled_take, Nat.sub_zero, List.drop_zero, hs]
      refine ⟨e5 i, by kernel_rfl, hK _ ?_⟩
      clear hK K
      repeat (first | refine walkL_seq ?_ | refine walkL_skip ?_ | refine walkL_block ?_ | (refine walkL_region fun K hK => ?_; simp (maxSteps := 4000000) only [go_sem]; refine hK _ ?_; clear hK K) | refine walkL_nil ?_ | refine walkL_ret ?_ | refine walkL_exit ?_ | refine blockA_here ?_ | refine blockA_other rfl ?_ | refine blockA_ret ?_ | refine blockA_normal ?_ | refine thenA_ret ?_ | refine thenA_exit ?_ | refine thenA_normal ?_)
      refine ⟨rfl, i + min i (m - i), ?_, by omega, by omega⟩
      refine weak_of [] ?_ ?_ rfl rfl <;> simp [lessT, lessM, lessB, AV.less]
    · have he : i = m := by have : ¬ i < m := by simpa using hb
                            omega
      subst he
      repeat (first | refine walkL_seq ?_ | refine walkL_skip ?_ | refine walkL_block ?_ | (refine walkL_region fun K hK => ?_; simp (maxSteps := 4000000) only [go_sem]; refine hK _ ?_; clear hK K) | refine walkL_nil ?_ | refine walkL_ret ?_ | refine walkL_exit ?_ | refine blockA_here ?_ | refine blockA_other rfl ?_ | refine blockA_ret ?_ | refine blockA_normal ?_ | refine thenA_ret ?_ | refine thenA_exit ?_ | refine thenA_normal ?_)
      simp (maxSteps := 4000000) only [go_sem, filled, Nat.sub_self, List.replicate]
end Go.Ab
namespace Go.Ab
open Go.RowKit Go.Proofs

/-- A list of numbers, as a slice's rows. -/
def intRows (l : List Int) : List (List DV) := l.map fun x => [.i x]
def getI (l : List Int) (i : Int) : Int := l.getD i.toNat 0

theorem intRows_get {l : List Int} {i : Int} (h0 : 0 ≤ i) (h1 : i.toNat < l.length) : (intRows l)[i.toNat]? = some [.i (getI l i)] := by
  simp [intRows, getI, h1]

theorem intRows_len (l : List Int) : (intRows l).length = l.length := by simp [intRows]
theorem rowsFlat_int (l : List Int) : rowsFlat (intRows l) := by
  intro r hr d hd
  obtain ⟨x, _, rfl⟩ := List.mem_map.1 hr
  simp at hd; subst hd; rfl
theorem intRows_set (l : List Int) (k : Nat) (x : Int) : (intRows l).set k [.i x] = intRows (l.set k x) := by simp [intRows, List.map_set]
theorem intRows_replicate (m : Nat) (c : Int) : List.replicate m [DV.i c] = intRows (List.replicate m c) := by simp [intRows]

/-- A net whose paths lie between its places, of no more than so many. -/
structure Net.Ok (n : Net) : Prop where
  places : 0 ≤ n.places ∧ n.places < 2 ^ 20
  paths : n.paths.length < 2 ^ 20
  frm : ∀ x ∈ n.paths, 0 ≤ x.frm ∧ x.frm < n.places
  to : ∀ x ∈ n.paths, 0 ≤ x.to ∧ x.to < n.places
  opens : ∀ x ∈ n.paths, x.opens.length < 2 ^ 20

theorem waysFrom_mem (p : Party) (but : Int) : ∀ (l : List Path) (i : Nat) (w : Nat × Path), w ∈ waysFrom p but l i → i ≤ w.1 ∧ l[w.1 - i]? = some w.2 ∧ w.2.grade ≤ p.grade ∧ (w.1 : Int) ≠ but
  | [], _, _, h => by simp [waysFrom] at h
  | x :: xs, i, w, h => by
    unfold waysFrom at h
    split at h
    · rename_i hc
      rcases List.mem_cons.1 h with rfl | h
      · exact ⟨Nat.le_refl _, by simp, hc.2, hc.1⟩
      · obtain ⟨h1, h2, h3, h4⟩ := waysFrom_mem p but xs (i + 1) w h
        exact ⟨by omega, by rw [show w.1 - i = (w.1 - (i + 1)) + 1 by omega]; simpa using h2, h3, h4⟩
    · obtain ⟨h1, h2, h3, h4⟩ := waysFrom_mem p but xs (i + 1) w h
      exact ⟨by omega, by rw [show w.1 - i = (w.1 - (i + 1)) + 1 by omega]; simpa using h2, h3, h4⟩

theorem waysL_get {n : Net} {p : Party} {but : Int} {w : Nat × Path} (h : w ∈ waysL n p but) : n.paths[w.1]? = some w.2 := by
  have := (waysFrom_mem p but n.paths 0 w h).2.1
  simpa using this

/-- One path, in a pass of deadlines: what each place's minute becomes, and whether any has changed. -/
def relaxD (p : Party) (a : List Int × Bool) (w : Nat × Path) : List Int × Bool :=
  let t := latestF w.2.opens (wr (getI a.1 w.2.to - (spanW w.2 p).hi))
  if t > getI a.1 w.2.frm then (a.1.set w.2.frm.toNat t, true) else a

def passD (n : Net) (p : Party) (l : List Int) : List Int × Bool := (waysL n p (-1)).foldl (relaxD p) (l, false)

theorem relaxD_len (p : Party) (a : List Int × Bool) (w : Nat × Path) : (relaxD p a w).1.length = a.1.length := by
  unfold relaxD; dsimp only; split <;> simp

theorem foldD_len (p : Party) : ∀ (ws : List (Nat × Path)) (a : List Int × Bool), (ws.foldl (relaxD p) a).1.length = a.1.length
  | [], _ => rfl
  | w :: ws, a => by rw [List.foldl_cons, foldD_len p ws, relaxD_len]
end Go.Ab
namespace Go.Ab
open Go.RowKit Go.Proofs

/-- How far a list of minutes still can rise. -/
def riseM (l : List Int) : Nat := (l.map fun x => (2881 - x).toNat).sum

theorem riseM_set : ∀ (l : List Int) (k : Nat) (t x : Int), l[k]? = some x → x < t → t ≤ 2880 → riseM (l.set k t) < riseM l
  | [], _, _, _, h, _, _ => by simp at h
  | a :: l, 0, t, x, h, h1, h2 => by
    simp at h; subst h
    simp only [riseM, List.set_cons_zero, List.map_cons, List.sum_cons]
    omega
  | a :: l, k + 1, t, x, h, h1, h2 => by
    have := riseM_set l k t x (by simpa using h) h1 h2
    simp only [riseM, List.set_cons_succ, List.map_cons, List.sum_cons] at this ⊢
    omega

theorem latestF_le (b : Int) : ∀ (opens : List Span) (last : Int), last ≤ 2880 → (∀ s ∈ opens, s.hi ≤ 2880) → opens.foldl (fun last s => if s.lo ≤ b then max last (min s.hi b) else last) last ≤ 2880
  | [], last, h, _ => h
  | s :: opens, last, h, hs => by
    rw [List.foldl_cons]
    refine latestF_le b opens _ ?_ (fun s' h' => hs s' (List.mem_cons_of_mem _ h'))
    have := hs s (List.mem_cons_self ..)
    split <;> omega

/-- Passes, till one changes nothing; so many at most. -/
def fixD (n : Net) (p : Party) : Nat → List Int → List Int
  | 0, l => l
  | k + 1, l => if (passD n p l).2 then fixD n p k (passD n p l).1 else (passD n p l).1

def deadlines0 (n : Net) (to b : Int) : List Int := (List.replicate n.places.toNat (-1)).set to.toNat b
def deadlinesL (n : Net) (p : Party) (to b : Int) : List Int := fixD n p (riseM (deadlines0 n to b) + 1) (deadlines0 n to b)

theorem foldD_M (p : Party) : ∀ (ws : List (Nat × Path)) (a : List Int × Bool), (∀ w ∈ ws, 0 ≤ w.2.frm ∧ w.2.frm.toNat < a.1.length ∧ ∀ s ∈ w.2.opens, s.hi ≤ 2880) →
    riseM (ws.foldl (relaxD p) a).1 ≤ riseM a.1 ∧ (a.2 = false → (ws.foldl (relaxD p) a).2 = true → riseM (ws.foldl (relaxD p) a).1 < riseM a.1)
  | [], a, _ => ⟨Nat.le_refl _, fun h1 h2 => by simp only [List.foldl_nil] at h2; rw [h1] at h2; cases h2⟩
  | w :: ws, a, h => by
    obtain ⟨h1, h2, h3⟩ := h w (List.mem_cons_self ..)
    have ih := foldD_M p ws (relaxD p a w) (fun w' h' => by rw [relaxD_len]; exact h w' (List.mem_cons_of_mem _ h'))
    rw [List.foldl_cons]
    by_cases hc : latestF w.2.opens (wr (getI a.1 w.2.to - (spanW w.2 p).hi)) > getI a.1 w.2.frm
    · have he : relaxD p a w = (a.1.set w.2.frm.toNat (latestF w.2.opens (wr (getI a.1 w.2.to - (spanW w.2 p).hi))), true) := by unfold relaxD; dsimp only; rw [if_pos hc]
      have hlt : riseM (relaxD p a w).1 < riseM a.1 := by
        rw [he]
        exact riseM_set a.1 _ _ (getI a.1 w.2.frm) (by simp [getI, h2]) hc (latestF_le _ _ _ (by omega) h3)
      exact ⟨by omega, fun _ _ => by omega⟩
    · have he : relaxD p a w = a := by unfold relaxD; dsimp only; rw [if_neg hc]
      rw [he] at ih ⊢
      exact ih
end Go.Ab
namespace Go.Ab
open Go.RowKit Go.Proofs
attribute [local irreducible] WalkL Walk

theorem walkL_forget {P : Program} {rd : Option Nat} {n : Nat} {J : Env} {c : Code} {cs : List Code} {k : Option Nat} {st : St} {Q : Exit → Option Nat → St → Prop} (ds : List Nat) (hw : Weak st (st.head ds [] [])) (h : WalkL P rd n J (c :: cs) k (st.head ds [] []) Q) :
    WalkL P rd n J (c :: cs) k st Q := walkL_weak hw h

theorem f54 (n : Net) (p : Party) (to b : Int) (hn : n.Ok) (hhi : ∀ x ∈ n.paths, ∀ s ∈ x.opens, s.hi ≤ 2880) (hto : 0 ≤ to ∧ to < n.places) : FnS Try.prog 54 [.agg (walkCells n p), .i to, .i b] 3 1 (intRows (deadlinesL n p to b)) := by
  obtain ⟨m, hm⟩ : ∃ m : Nat, n.places = m := ⟨n.places.toNat, by have := hn.places.1; omega⟩
  have hpl := hn.places
  refine fnS_walk 48 Try.call54 Try.func54 rfl (by decide) fun J => ?_
  simp (maxSteps := 4000000) only [go_sem, St.start, Try.ntmps54, Try.results54, walkCells]
  refine walkL_seq ?_
  refine walkL_region fun K hK => ?_
  simp (maxSteps := 4000000) only [go_sem]
  refine hK _ ?_
  clear hK K
  refine walkL_seq ?_
  refine walkL_region fun K hK => ?_
  have h47 : FnS Try.prog 47 [.sl [[.i (-1)]], .i n.places] 3 1 (List.replicate m [.i (-1)]) := by rw [hm]; exact f47 (-1) m (by omega)
  simp (maxSteps := 4000000) only [go_sem]
  refine ⟨_, .lentS (hdst := rfl) (hf := h47) (hd := rfl) (hr := by intro r hr d hd; rw [List.eq_of_mem_replicate hr] at hd; simp at hd; subst hd; rfl) (hfr := rfl), ?_⟩
  simp (maxSteps := 4000000) only [go_sem]
  refine hK _ ?_
  clear hK K
  have hlt : to.toNat < m := by omega
  have hset : (List.replicate m [DV.int IntKind.i64 (-1)]).set to.toNat [DV.i b] = intRows (deadlines0 n to b) := by
    rw [show List.replicate m [DV.int IntKind.i64 (-1)] = intRows (List.replicate m (-1)) from intRows_replicate m (-1), intRows_set, deadlines0, hm]; rfl
  have hget : (List.replicate m [DV.int IntKind.i64 (-1)])[to.toNat]? = some [DV.int IntKind.i64 (-1)] := by simp [hlt]
  repeat (first | refine walkL_seq ?_ | refine walkL_skip ?_ | refine walkL_block ?_ | (refine walkL_region fun K hK => ?_; simp (maxSteps := 4000000) only [go_sem, hlt, hget, hset, hto.1]; refine hK _ ?_; clear hK K) | refine walkL_nil ?_ | refine walkL_ret ?_ | refine walkL_exit ?_ | refine blockA_here ?_ | refine blockA_other rfl ?_ | refine blockA_ret ?_ | refine blockA_normal ?_ | refine thenA_ret ?_ | refine thenA_exit ?_ | refine thenA_normal ?_)
  refine walkL_loopS (fun (a : List Int × Bool × Nat) => [(8, .box 8 0)]) (fun a => [(8, some (.box [.d (.bool a.2.1)])), (16, some (.arr 3 1 (intRows a.1)))])
    (fun a => a.1.length = m ∧ deadlinesL n p to b = (if a.2.1 then fixD n p a.2.2 a.1 else a.1) ∧ (a.2.1 = true → riseM a.1 < a.2.2)) (fun a => if a.2.1 then a.2.2 + 1 else 0) (deadlines0 n to b, true, riseM (deadlines0 n to b) + 1) ?_ ⟨by simp [deadlines0, hm], by simp [deadlinesL], fun _ => by simp⟩ ?_
  · simp (maxSteps := 4000000) only [go_sem]
    refine weak_of [] ?_ ?_ rfl rfl <;> simp [lessT, lessM, lessB, AV.less]
  · rintro ⟨l, ch, k⟩ ⟨h1, h2, h3⟩
    dsimp only at h1 h2 h3
    simp (maxSteps := 4000000) only [go_sem]
    repeat (first | refine walkL_seq ?_ | refine walkL_skip ?_ | refine walkL_block ?_ | (refine walkL_region fun K hK => ?_; simp (maxSteps := 4000000) only [go_sem]; refine hK _ ?_; clear hK K) | refine walkL_nil ?_ | refine walkL_ret ?_ | refine walkL_exit ?_ | refine blockA_here ?_ | refine blockA_other rfl ?_ | refine blockA_ret ?_ | refine blockA_normal ?_ | refine thenA_ret ?_ | refine thenA_exit ?_ | refine thenA_normal ?_)
    refine walkL_cond rfl (fun hb => ?_) (fun hb => ?_)
    · subst hb
      repeat (first | refine walkL_seq ?_ | refine walkL_skip ?_ | refine walkL_block ?_ | (refine walkL_region fun K hK => ?_; simp (maxSteps := 4000000) only [go_sem]; refine hK _ ?_; clear hK K) | refine walkL_nil ?_ | refine walkL_ret ?_ | refine walkL_exit ?_ | refine blockA_here ?_ | refine blockA_other rfl ?_ | refine blockA_ret ?_ | refine blockA_normal ?_ | refine thenA_ret ?_ | refine thenA_exit ?_ | refine thenA_normal ?_)
      refine walkL_region fun K hK => ?_
      simp (maxSteps := 4000000) only [go_sem]
      refine ⟨_, .given (hf := f48 n p (-1)) (hd := rfl) (ha := rfl), ?_⟩
      simp (maxSteps := 4000000) only [go_sem]
      refine hK _ ?_
      clear hK K
      repeat (first | refine walkL_seq ?_ | refine walkL_skip ?_ | refine walkL_block ?_ | (refine walkL_region fun K hK => ?_; simp (maxSteps := 4000000) only [go_sem]; refine hK _ ?_; clear hK K) | refine walkL_nil ?_ | refine walkL_ret ?_ | refine walkL_exit ?_ | refine blockA_here ?_ | refine blockA_other rfl ?_ | refine blockA_ret ?_ | refine blockA_normal ?_ | refine thenA_ret ?_ | refine thenA_exit ?_ | refine thenA_normal ?_)
      refine walkL_rangeS (g := .tmp 23) rfl (iter87 n p (-1) (by have := hn.paths; omega)) (by intro row hr; obtain ⟨w, _, rfl⟩ := List.mem_map.1 hr; rfl) (fun _ => []) (fun (a : List Int × Bool) => [(8, some (.box [.d (.bool a.2)])), (16, some (.arr 3 1 (intRows a.1)))])
        (fun i a => a = ((waysL n p (-1)).take i).foldl (relaxD p) (l, false)) (fun _ _ => False) (l, false) ?_ rfl ?_ ?_ (fun _ _ h => h.elim)
      · simp (maxSteps := 4000000) only [go_sem]
        refine weak_of [] ?_ ?_ rfl rfl <;> simp [lessT, lessM, lessB, AV.less]
      · intro i a row hi ha l2 m2
        simp only [List.getElem?_map, Option.map_eq_some_iff] at hi
        obtain ⟨w, hw, rfl⟩ := hi
        have hx := waysL_get (List.mem_of_getElem? hw)
        have hmem := List.mem_of_getElem? hx
        have hlen : a.1.length = m := by rw [ha, foldD_len]; exact h1
        have hf := hn.frm w.2 hmem
        have ht := hn.to w.2 hmem
        have g1 : (intRows a.1)[w.2.to.toNat]? = some [.i (getI a.1 w.2.to)] := intRows_get ht.1 (by omega)
        have g2 : (intRows a.1)[w.2.frm.toNat]? = some [.i (getI a.1 w.2.frm)] := intRows_get hf.1 (by omega)
        have g3 : w.2.to.toNat < (intRows a.1).length := by rw [intRows_len]; omega
        have g4 : w.2.frm.toNat < (intRows a.1).length := by rw [intRows_len]; omega
        have h49 := f49 n p w.1 w.2 (getI a.1 w.2.to) hx (by have := hn.opens w.2 hmem; omega)
        have hnext : ((waysL n p (-1)).take (i + 1)).foldl (relaxD p) (l, false) = relaxD p a w := by rw [ha]; exact foldl_take_succ _ _ _ _ _ hw
        simp (maxSteps := 4000000) only [go_sem, wayRow, Path.row]
        repeat (first | refine walkL_seq ?_ | refine walkL_skip ?_ | refine walkL_block ?_ | (refine walkL_region fun K hK => ?_; simp (maxSteps := 4000000) only [go_sem, g1, g2, g3, g4, ht.1, hf.1]; refine hK _ ?_; clear hK K) | refine walkL_nil ?_ | refine walkL_ret ?_ | refine walkL_exit ?_ | refine blockA_here ?_ | refine blockA_other rfl ?_ | refine blockA_ret ?_ | refine blockA_normal ?_ | refine thenA_ret ?_ | refine thenA_exit ?_ | refine thenA_normal ?_)
        refine walkL_drawn (by kernel_rfl) (by kernel_rfl) fun K hK => ?_
        simp (maxSteps := 4000000) only [go_sem, g1, g2, g3, g4, ht.1, hf.1]
        refine ⟨_, .fn (hf := h49) (hd := rfl) (hr := .inl rfl), ?_⟩
        simp (maxSteps := 4000000) only [go_sem]
        refine ⟨by kernel_rfl, hK _ ?_⟩
        clear hK K
        repeat (first | refine walkL_seq ?_ | refine walkL_skip ?_ | refine walkL_block ?_ | (refine walkL_region fun K hK => ?_; simp (maxSteps := 4000000) only [go_sem, g1, g2, g3, g4, ht.1, hf.1]; refine hK _ ?_; clear hK K) | refine walkL_nil ?_ | refine walkL_ret ?_ | refine walkL_exit ?_ | refine blockA_here ?_ | refine blockA_other rfl ?_ | refine blockA_ret ?_ | refine blockA_normal ?_ | refine thenA_ret ?_ | refine thenA_exit ?_ | refine thenA_normal ?_)
        refine walkL_cond rfl (fun hc => ?_) (fun hc => ?_)
        · have hc : latestF w.2.opens (wr (getI a.1 w.2.to - (spanW w.2 p).hi)) > getI a.1 w.2.frm := by simpa using hc
          have he : relaxD p a w = (a.1.set w.2.frm.toNat (latestF w.2.opens (wr (getI a.1 w.2.to - (spanW w.2 p).hi))), true) := by unfold relaxD; dsimp only; rw [if_pos hc]
          repeat (first | refine walkL_seq ?_ | refine walkL_skip ?_ | refine walkL_block ?_ | (refine walkL_region fun K hK => ?_; simp (maxSteps := 4000000) only [go_sem, g1, g2, g3, g4, ht.1, hf.1]; refine hK _ ?_; clear hK K) | refine walkL_nil ?_ | refine walkL_ret ?_ | refine walkL_exit ?_ | refine blockA_here ?_ | refine blockA_other rfl ?_ | refine blockA_ret ?_ | refine blockA_normal ?_ | refine thenA_ret ?_ | refine thenA_exit ?_ | refine thenA_normal ?_)
          refine ⟨rfl, relaxD p a w, ?_, hnext.symm⟩
          rw [he, intRows_set]
          simp (maxSteps := 4000000) only [go_sem]
          refine weak_of [] ?_ ?_ rfl rfl <;> simp [lessT, lessM, lessB, AV.less]
        · have hc : ¬ latestF w.2.opens (wr (getI a.1 w.2.to - (spanW w.2 p).hi)) > getI a.1 w.2.frm := by simpa using hc
          have he : relaxD p a w = a := by unfold relaxD; dsimp only; rw [if_neg hc]
          repeat (first | refine walkL_seq ?_ | refine walkL_skip ?_ | refine walkL_block ?_ | (refine walkL_region fun K hK => ?_; simp (maxSteps := 4000000) only [go_sem]; refine hK _ ?_; clear hK K) | refine walkL_nil ?_ | refine walkL_ret ?_ | refine walkL_exit ?_ | refine blockA_here ?_ | refine blockA_other rfl ?_ | refine blockA_ret ?_ | refine blockA_normal ?_ | refine thenA_ret ?_ | refine thenA_exit ?_ | refine thenA_normal ?_)
          refine ⟨rfl, relaxD p a w, ?_, hnext.symm⟩
          rw [he]
          simp (maxSteps := 4000000) only [go_sem]
          refine weak_of [] ?_ ?_ rfl rfl <;> simp [lessT, lessM, lessB, AV.less]
      · intro a ha
        rw [List.length_map, List.take_length] at ha
        have ha : a = passD n p l := ha
        have hM := foldD_M p (waysL n p (-1)) (l, false) (fun w hw => by
          have hx := List.mem_of_getElem? (waysL_get hw)
          have := hn.frm w.2 hx
          exact ⟨this.1, by show w.2.frm.toNat < l.length; omega, hhi w.2 hx⟩)
        rw [← show passD n p l = (waysL n p (-1)).foldl (relaxD p) (l, false) from rfl, ← ha] at hM
        have hlen : a.1.length = m := by rw [ha, passD, foldD_len]; exact h1
        have hk := h3 rfl
        simp (maxSteps := 4000000) only [go_sem]
        repeat (first | refine walkL_seq ?_ | refine walkL_skip ?_ | refine walkL_block ?_ | (refine walkL_region fun K hK => ?_; simp (maxSteps := 4000000) only [go_sem]; refine hK _ ?_; clear hK K) | refine walkL_nil ?_ | refine walkL_ret ?_ | refine walkL_exit ?_ | refine blockA_here ?_ | refine blockA_other rfl ?_ | refine blockA_ret ?_ | refine blockA_normal ?_ | refine thenA_ret ?_ | refine thenA_exit ?_ | refine thenA_normal ?_)
        refine walkL_forget [8] ?_ ?_
        · simp (maxSteps := 4000000) only [go_sem]
          refine weak_of [] ?_ ?_ rfl rfl <;> simp [lessT, lessM, lessB, AV.less]
        simp (maxSteps := 4000000) only [go_sem]
        repeat (first | refine walkL_seq ?_ | refine walkL_skip ?_ | refine walkL_block ?_ | (refine walkL_region fun K hK => ?_; simp (maxSteps := 4000000) only [go_sem]; refine hK _ ?_; clear hK K) | refine walkL_nil ?_ | refine walkL_ret ?_ | refine walkL_exit ?_ | refine blockA_here ?_ | refine blockA_other rfl ?_ | refine blockA_ret ?_ | refine blockA_normal ?_ | refine thenA_ret ?_ | refine thenA_exit ?_ | refine thenA_normal ?_)
        refine ⟨rfl, (a.1, a.2, k - 1), ?_, ⟨hlen, ?_, fun hc => ?_⟩, ?_⟩
        · refine weak_of [] ?_ ?_ rfl rfl <;> simp [lessT, lessM, lessB, AV.less]
        · obtain ⟨k', rfl⟩ : ∃ k', k = k' + 1 := ⟨k - 1, by omega⟩
          rw [h2, if_pos rfl, fixD, ← ha]; rfl
        · have := hM.2 rfl hc
          dsimp only at this ⊢
          omega
        · dsimp only
          split <;> simp <;> omega
    · subst hb
      repeat (first | refine walkL_seq ?_ | refine walkL_skip ?_ | refine walkL_block ?_ | (refine walkL_region fun K hK => ?_; simp (maxSteps := 4000000) only [go_sem]; refine hK _ ?_; clear hK K) | refine walkL_nil ?_ | refine walkL_ret ?_ | refine walkL_exit ?_ | refine blockA_here ?_ | refine blockA_other rfl ?_ | refine blockA_ret ?_ | refine blockA_normal ?_ | refine thenA_ret ?_ | refine thenA_exit ?_ | refine thenA_normal ?_)
      simp (maxSteps := 4000000) only [go_sem]
      rw [h2]
      simp
end Go.Ab
namespace Go.Ab
open Go.RowKit Go.Proofs
attribute [local irreducible] WalkL Walk

def never : Int := 1073741824

/-- One path, in a pass of arrivals. -/
def relaxA (p : Party) (q : Span → Int) (a : List Int × Bool) (w : Nat × Path) : List Int × Bool :=
  if getI a.1 w.2.frm = never then a else
    let t := arriveF w.2.opens (getI a.1 w.2.frm) (q (spanW w.2 p))
    if t < getI a.1 w.2.to then (a.1.set w.2.to.toNat t, true) else a

def passA (n : Net) (p : Party) (q : Span → Int) (but : Int) (l : List Int) : List Int × Bool := (waysL n p but).foldl (relaxA p q) (l, false)

theorem relaxA_len (p : Party) (q : Span → Int) (a : List Int × Bool) (w : Nat × Path) : (relaxA p q a w).1.length = a.1.length := by
  unfold relaxA
  split
  · rfl
  · dsimp only; split <;> simp

theorem foldA_len (p : Party) (q : Span → Int) : ∀ (ws : List (Nat × Path)) (a : List Int × Bool), (ws.foldl (relaxA p q) a).1.length = a.1.length
  | [], _ => rfl
  | w :: ws, a => by rw [List.foldl_cons, foldA_len p q ws, relaxA_len]

/-- How far a list of minutes still can fall. -/
def fallM (l : List Int) : Nat := (l.map fun x => (x + 9223372036854775809).toNat).sum

theorem fallM_set : ∀ (l : List Int) (k : Nat) (t x : Int), l[k]? = some x → t < x → -9223372036854775808 ≤ t → fallM (l.set k t) < fallM l
  | [], _, _, _, h, _, _ => by simp at h
  | a :: l, 0, t, x, h, h1, h2 => by
    simp at h; subst h
    simp only [fallM, List.set_cons_zero, List.map_cons, List.sum_cons]
    omega
  | a :: l, k + 1, t, x, h, h1, h2 => by
    have := fallM_set l k t x (by simpa using h) h1 h2
    simp only [fallM, List.set_cons_succ, List.map_cons, List.sum_cons] at this ⊢
    omega

theorem wr_low (x : Int) : -9223372036854775808 ≤ wr x := by
  show -9223372036854775808 ≤ IntKind.i64.wrap x
  rw [IntKind.wrap_i64]; omega

theorem arriveF_low (opens : List Span) (t d : Int) : -9223372036854775808 ≤ arriveF opens t d := by
  unfold arriveF; split
  · omega
  · exact wr_low _

theorem foldA_M (p : Party) (q : Span → Int) : ∀ (ws : List (Nat × Path)) (a : List Int × Bool), (∀ w ∈ ws, w.2.to.toNat < a.1.length) →
    fallM (ws.foldl (relaxA p q) a).1 ≤ fallM a.1 ∧ (a.2 = false → (ws.foldl (relaxA p q) a).2 = true → fallM (ws.foldl (relaxA p q) a).1 < fallM a.1)
  | [], a, _ => ⟨Nat.le_refl _, fun h1 h2 => by simp only [List.foldl_nil] at h2; rw [h1] at h2; cases h2⟩
  | w :: ws, a, h => by
    have h2 := h w (List.mem_cons_self ..)
    have ih := foldA_M p q ws (relaxA p q a w) (fun w' h' => by rw [relaxA_len]; exact h w' (List.mem_cons_of_mem _ h'))
    rw [List.foldl_cons]
    by_cases hn : getI a.1 w.2.frm = never
    · have he : relaxA p q a w = a := by unfold relaxA; rw [if_pos hn]
      rw [he] at ih ⊢; exact ih
    · by_cases hc : arriveF w.2.opens (getI a.1 w.2.frm) (q (spanW w.2 p)) < getI a.1 w.2.to
      · have he : relaxA p q a w = (a.1.set w.2.to.toNat (arriveF w.2.opens (getI a.1 w.2.frm) (q (spanW w.2 p))), true) := by unfold relaxA; rw [if_neg hn]; dsimp only; rw [if_pos hc]
        have hlt : fallM (relaxA p q a w).1 < fallM a.1 := by
          rw [he]
          exact fallM_set a.1 _ _ (getI a.1 w.2.to) (by simp [getI, h2]) hc (arriveF_low _ _ _)
        exact ⟨by omega, fun _ _ => by omega⟩
      · have he : relaxA p q a w = a := by unfold relaxA; rw [if_neg hn]; dsimp only; rw [if_neg hc]
        rw [he] at ih ⊢; exact ih

def fixA (n : Net) (p : Party) (q : Span → Int) (but : Int) : Nat → List Int → List Int
  | 0, l => l
  | k + 1, l => if (passA n p q but l).2 then fixA n p q but k (passA n p q but l).1 else (passA n p q but l).1

def arrivals0 (n : Net) (frm start : Int) : List Int := (List.replicate n.places.toNat never).set frm.toNat start
def arrivalsL (n : Net) (p : Party) (q : Span → Int) (frm start but : Int) : List Int := fixA n p q but (fallM (arrivals0 n frm start) + 1) (arrivals0 n frm start)
end Go.Ab
namespace Go.Ab
open Go.RowKit Go.Proofs
attribute [local irreducible] WalkL Walk

theorem f42 (n : Net) (p : Party) (frm start but : Int) (g : Nat) (q : Span → Int) (hq : ∀ s, Fn Try.prog g [.agg s.row] (.i (q s))) (hn : n.Ok) (hfr : 0 ≤ frm ∧ frm < n.places) :
    FnS Try.prog 42 [.agg (walkCells n p), .i frm, .i start, .i but, .fn g []] 3 1 (intRows (arrivalsL n p q frm start but)) := by
  obtain ⟨m, hm⟩ : ∃ m : Nat, n.places = m := ⟨n.places.toNat, by have := hn.places.1; omega⟩
  have hpl := hn.places
  refine fnS_walk 64 Try.call42 Try.func42 rfl (by decide) fun J => ?_
  simp (maxSteps := 4000000) only [go_sem, St.start, Try.ntmps42, Try.results42, walkCells]
  refine walkL_seq ?_
  refine walkL_region fun K hK => ?_
  simp (maxSteps := 4000000) only [go_sem]
  refine hK _ ?_
  clear hK K
  refine walkL_seq ?_
  refine walkL_region fun K hK => ?_
  have h47 : FnS Try.prog 47 [.sl [[.i 1073741824]], .i n.places] 3 1 (List.replicate m [.i 1073741824]) := by rw [hm]; exact f47 1073741824 m (by omega)
  simp (maxSteps := 4000000) only [go_sem]
  refine ⟨_, .lentS (hdst := rfl) (hf := h47) (hd := rfl) (hr := by intro r hr d hd; rw [List.eq_of_mem_replicate hr] at hd; simp at hd; subst hd; rfl) (hfr := rfl), ?_⟩
  simp (maxSteps := 4000000) only [go_sem]
  refine hK _ ?_
  clear hK K
  have hlt : frm.toNat < m := by omega
  have hset : (List.replicate m [DV.int IntKind.i64 1073741824]).set frm.toNat [DV.i start] = intRows (arrivals0 n frm start) := by
    rw [show List.replicate m [DV.int IntKind.i64 1073741824] = intRows (List.replicate m 1073741824) from intRows_replicate m 1073741824, intRows_set, arrivals0, hm]; rfl
  have hget : (List.replicate m [DV.int IntKind.i64 1073741824])[frm.toNat]? = some [DV.int IntKind.i64 1073741824] := by simp [hlt]
  repeat (first | refine walkL_seq ?_ | refine walkL_skip ?_ | refine walkL_block ?_ | (refine walkL_region fun K hK => ?_; simp (maxSteps := 4000000) only [go_sem, hlt, hget, hset, hfr.1]; refine hK _ ?_; clear hK K) | refine walkL_nil ?_ | refine walkL_ret ?_ | refine walkL_exit ?_ | refine blockA_here ?_ | refine blockA_other rfl ?_ | refine blockA_ret ?_ | refine blockA_normal ?_ | refine thenA_ret ?_ | refine thenA_exit ?_ | refine thenA_normal ?_)
  refine walkL_loopS (fun (a : List Int × Bool × Nat) => [(12, .box 12 0)]) (fun a => [(12, some (.box [.d (.bool a.2.1)])), (20, some (.arr 3 1 (intRows a.1)))])
    (fun a => a.1.length = m ∧ arrivalsL n p q frm start but = (if a.2.1 then fixA n p q but a.2.2 a.1 else a.1) ∧ (a.2.1 = true → fallM a.1 < a.2.2)) (fun a => if a.2.1 then a.2.2 + 1 else 0) (arrivals0 n frm start, true, fallM (arrivals0 n frm start) + 1) ?_ ⟨by simp [arrivals0, hm], by simp [arrivalsL], fun _ => by simp⟩ ?_
  · simp (maxSteps := 4000000) only [go_sem]
    refine weak_of [] ?_ ?_ rfl rfl <;> simp [lessT, lessM, lessB, AV.less]
  · rintro ⟨l, ch, k⟩ ⟨h1, h2, h3⟩
    dsimp only at h1 h2 h3
    simp (maxSteps := 4000000) only [go_sem]
    repeat (first | refine walkL_seq ?_ | refine walkL_skip ?_ | refine walkL_block ?_ | (refine walkL_region fun K hK => ?_; simp (maxSteps := 4000000) only [go_sem]; refine hK _ ?_; clear hK K) | refine walkL_nil ?_ | refine walkL_ret ?_ | refine walkL_exit ?_ | refine blockA_here ?_ | refine blockA_other rfl ?_ | refine blockA_ret ?_ | refine blockA_normal ?_ | refine thenA_ret ?_ | refine thenA_exit ?_ | refine thenA_normal ?_)
    refine walkL_cond rfl (fun hb => ?_) (fun hb => ?_)
    · subst hb
      repeat (first | refine walkL_seq ?_ | refine walkL_skip ?_ | refine walkL_block ?_ | (refine walkL_region fun K hK => ?_; simp (maxSteps := 4000000) only [go_sem]; refine hK _ ?_; clear hK K) | refine walkL_nil ?_ | refine walkL_ret ?_ | refine walkL_exit ?_ | refine blockA_here ?_ | refine blockA_other rfl ?_ | refine blockA_ret ?_ | refine blockA_normal ?_ | refine thenA_ret ?_ | refine thenA_exit ?_ | refine thenA_normal ?_)
      refine walkL_region fun K hK => ?_
      simp (maxSteps := 4000000) only [go_sem]
      refine ⟨_, .given (hf := f48 n p but) (hd := rfl) (ha := rfl), ?_⟩
      simp (maxSteps := 4000000) only [go_sem]
      refine hK _ ?_
      clear hK K
      repeat (first | refine walkL_seq ?_ | refine walkL_skip ?_ | refine walkL_block ?_ | (refine walkL_region fun K hK => ?_; simp (maxSteps := 4000000) only [go_sem]; refine hK _ ?_; clear hK K) | refine walkL_nil ?_ | refine walkL_ret ?_ | refine walkL_exit ?_ | refine blockA_here ?_ | refine blockA_other rfl ?_ | refine blockA_ret ?_ | refine blockA_normal ?_ | refine thenA_ret ?_ | refine thenA_exit ?_ | refine thenA_normal ?_)
      refine walkL_rangeS (g := .tmp 28) rfl (iter87 n p but (by have := hn.paths; omega)) (by intro row hr; obtain ⟨w, _, rfl⟩ := List.mem_map.1 hr; rfl) (fun _ => []) (fun (a : List Int × Bool) => [(12, some (.box [.d (.bool a.2)])), (20, some (.arr 3 1 (intRows a.1)))])
        (fun i a => a = ((waysL n p but).take i).foldl (relaxA p q) (l, false)) (fun _ _ => False) (l, false) ?_ rfl ?_ ?_ (fun _ _ h => h.elim)
      · simp (maxSteps := 4000000) only [go_sem]
        refine weak_of [] ?_ ?_ rfl rfl <;> simp [lessT, lessM, lessB, AV.less]
      · intro i a row hi ha l2 m2
        simp only [List.getElem?_map, Option.map_eq_some_iff] at hi
        obtain ⟨w, hw, rfl⟩ := hi
        have hx := waysL_get (List.mem_of_getElem? hw)
        have hmem := List.mem_of_getElem? hx
        have hlen : a.1.length = m := by rw [ha, foldA_len]; exact h1
        have hf := hn.frm w.2 hmem
        have ht := hn.to w.2 hmem
        have g1 : (intRows a.1)[w.2.to.toNat]? = some [.i (getI a.1 w.2.to)] := intRows_get ht.1 (by omega)
        have g2 : (intRows a.1)[w.2.frm.toNat]? = some [.i (getI a.1 w.2.frm)] := intRows_get hf.1 (by omega)
        have g3 : w.2.to.toNat < (intRows a.1).length := by rw [intRows_len]; omega
        have g4 : w.2.frm.toNat < (intRows a.1).length := by rw [intRows_len]; omega
        have h50 := f50 n p w.1 w.2 (getI a.1 w.2.frm) (q (spanW w.2 p)) hx (by have := hn.opens w.2 hmem; omega)
        have h51 := f51 n p w.1 w.2 hx
        have hnext : ((waysL n p but).take (i + 1)).foldl (relaxA p q) (l, false) = relaxA p q a w := by rw [ha]; exact foldl_take_succ _ _ _ _ _ hw
        simp (maxSteps := 4000000) only [go_sem, wayRow, Path.row]
        repeat (first | refine walkL_seq ?_ | refine walkL_skip ?_ | refine walkL_block ?_ | (refine walkL_region fun K hK => ?_; simp (maxSteps := 4000000) only [go_sem, g1, g2, g3, g4, ht.1, hf.1]; refine hK _ ?_; clear hK K) | refine walkL_nil ?_ | refine walkL_ret ?_ | refine walkL_exit ?_ | refine blockA_here ?_ | refine blockA_other rfl ?_ | refine blockA_ret ?_ | refine blockA_normal ?_ | refine thenA_ret ?_ | refine thenA_exit ?_ | refine thenA_normal ?_)
        refine walkL_cond rfl (fun hc => ?_) (fun hc => ?_)
        · have hc : getI a.1 w.2.frm = never := by simpa [never] using hc
          have he : relaxA p q a w = a := by unfold relaxA; rw [if_pos hc]
          repeat (first | refine walkL_seq ?_ | refine walkL_skip ?_ | refine walkL_block ?_ | (refine walkL_region fun K hK => ?_; simp (maxSteps := 4000000) only [go_sem]; refine hK _ ?_; clear hK K) | refine walkL_nil ?_ | refine walkL_ret ?_ | refine walkL_exit ?_ | refine blockA_here ?_ | refine blockA_other rfl ?_ | refine blockA_ret ?_ | refine blockA_normal ?_ | refine thenA_ret ?_ | refine thenA_exit ?_ | refine thenA_normal ?_)
          refine ⟨rfl, relaxA p q a w, ?_, hnext.symm⟩
          rw [he]
          simp (maxSteps := 4000000) only [go_sem]
          refine weak_of [] ?_ ?_ rfl rfl <;> simp [lessT, lessM, lessB, AV.less]
        · have hnv : ¬ getI a.1 w.2.frm = never := by intro e; rw [e] at hc; simp [never] at hc
          repeat (first | refine walkL_seq ?_ | refine walkL_skip ?_ | refine walkL_block ?_ | (refine walkL_region fun K hK => ?_; simp (maxSteps := 4000000) only [go_sem]; refine hK _ ?_; clear hK K) | refine walkL_nil ?_ | refine walkL_ret ?_ | refine walkL_exit ?_ | refine blockA_here ?_ | refine blockA_other rfl ?_ | refine blockA_ret ?_ | refine blockA_normal ?_ | refine thenA_ret ?_ | refine thenA_exit ?_ | refine thenA_normal ?_)
          refine walkL_drawn (by kernel_rfl) (by kernel_rfl) fun K hK => ?_
          simp (maxSteps := 4000000) only [go_sem, g1, g2, g3, g4, ht.1, hf.1]
          refine ⟨_, .fn (hf := h51) (hd := rfl) (hr := .inl rfl), ?_⟩
          simp (maxSteps := 4000000) only [go_sem]
          refine ⟨_, .fn (hf := hq _) (hd := rfl) (hr := .inl rfl), ?_⟩
          simp (maxSteps := 4000000) only [go_sem]
          refine ⟨_, .fn (hf := h50) (hd := rfl) (hr := .inl rfl), ?_⟩
          simp (maxSteps := 4000000) only [go_sem]
          refine ⟨by kernel_rfl, hK _ ?_⟩
          clear hK K
          repeat (first | refine walkL_seq ?_ | refine walkL_skip ?_ | refine walkL_block ?_ | (refine walkL_region fun K hK => ?_; simp (maxSteps := 4000000) only [go_sem, g1, g2, g3, g4, ht.1, hf.1]; refine hK _ ?_; clear hK K) | refine walkL_nil ?_ | refine walkL_ret ?_ | refine walkL_exit ?_ | refine blockA_here ?_ | refine blockA_other rfl ?_ | refine blockA_ret ?_ | refine blockA_normal ?_ | refine thenA_ret ?_ | refine thenA_exit ?_ | refine thenA_normal ?_)
          refine walkL_cond rfl (fun hc => ?_) (fun hc => ?_)
          · have hc : arriveF w.2.opens (getI a.1 w.2.frm) (q (spanW w.2 p)) < getI a.1 w.2.to := by simpa using hc
            have he : relaxA p q a w = (a.1.set w.2.to.toNat (arriveF w.2.opens (getI a.1 w.2.frm) (q (spanW w.2 p))), true) := by unfold relaxA; rw [if_neg hnv]; dsimp only; rw [if_pos hc]
            repeat (first | refine walkL_seq ?_ | refine walkL_skip ?_ | refine walkL_block ?_ | (refine walkL_region fun K hK => ?_; simp (maxSteps := 4000000) only [go_sem, g1, g2, g3, g4, ht.1, hf.1]; refine hK _ ?_; clear hK K) | refine walkL_nil ?_ | refine walkL_ret ?_ | refine walkL_exit ?_ | refine blockA_here ?_ | refine blockA_other rfl ?_ | refine blockA_ret ?_ | refine blockA_normal ?_ | refine thenA_ret ?_ | refine thenA_exit ?_ | refine thenA_normal ?_)
            refine ⟨rfl, relaxA p q a w, ?_, hnext.symm⟩
            rw [he, intRows_set]
            simp (maxSteps := 4000000) only [go_sem]
            refine weak_of [] ?_ ?_ rfl rfl <;> simp [lessT, lessM, lessB, AV.less]
          · have hc : ¬ arriveF w.2.opens (getI a.1 w.2.frm) (q (spanW w.2 p)) < getI a.1 w.2.to := by simpa using hc
            have he : relaxA p q a w = a := by unfold relaxA; rw [if_neg hnv]; dsimp only; rw [if_neg hc]
            repeat (first | refine walkL_seq ?_ | refine walkL_skip ?_ | refine walkL_block ?_ | (refine walkL_region fun K hK => ?_; simp (maxSteps := 4000000) only [go_sem]; refine hK _ ?_; clear hK K) | refine walkL_nil ?_ | refine walkL_ret ?_ | refine walkL_exit ?_ | refine blockA_here ?_ | refine blockA_other rfl ?_ | refine blockA_ret ?_ | refine blockA_normal ?_ | refine thenA_ret ?_ | refine thenA_exit ?_ | refine thenA_normal ?_)
            refine ⟨rfl, relaxA p q a w, ?_, hnext.symm⟩
            rw [he]
            simp (maxSteps := 4000000) only [go_sem]
            refine weak_of [] ?_ ?_ rfl rfl <;> simp [lessT, lessM, lessB, AV.less]
      · intro a ha
        rw [List.length_map, List.take_length] at ha
        have ha : a = passA n p q but l := ha
        have hM := foldA_M p q (waysL n p but) (l, false) (fun w hw => by
          have := hn.to w.2 (List.mem_of_getElem? (waysL_get hw))
          show w.2.to.toNat < l.length; omega)
        rw [← show passA n p q but l = (waysL n p but).foldl (relaxA p q) (l, false) from rfl, ← ha] at hM
        have hlen : a.1.length = m := by rw [ha, passA, foldA_len]; exact h1
        have hk := h3 rfl
        simp (maxSteps := 4000000) only [go_sem]
        repeat (first | refine walkL_seq ?_ | refine walkL_skip ?_ | refine walkL_block ?_ | (refine walkL_region fun K hK => ?_; simp (maxSteps := 4000000) only [go_sem]; refine hK _ ?_; clear hK K) | refine walkL_nil ?_ | refine walkL_ret ?_ | refine walkL_exit ?_ | refine blockA_here ?_ | refine blockA_other rfl ?_ | refine blockA_ret ?_ | refine blockA_normal ?_ | refine thenA_ret ?_ | refine thenA_exit ?_ | refine thenA_normal ?_)
        refine walkL_forget [12] ?_ ?_
        · simp (maxSteps := 4000000) only [go_sem]
          refine weak_of [] ?_ ?_ rfl rfl <;> simp [lessT, lessM, lessB, AV.less]
        simp (maxSteps := 4000000) only [go_sem]
        repeat (first | refine walkL_seq ?_ | refine walkL_skip ?_ | refine walkL_block ?_ | (refine walkL_region fun K hK => ?_; simp (maxSteps := 4000000) only [go_sem]; refine hK _ ?_; clear hK K) | refine walkL_nil ?_ | refine walkL_ret ?_ | refine walkL_exit ?_ | refine blockA_here ?_ | refine blockA_other rfl ?_ | refine blockA_ret ?_ | refine blockA_normal ?_ | refine thenA_ret ?_ | refine thenA_exit ?_ | refine thenA_normal ?_)
        refine ⟨rfl, (a.1, a.2, k - 1), ?_, ⟨hlen, ?_, fun hc => ?_⟩, ?_⟩
        · refine weak_of [] ?_ ?_ rfl rfl <;> simp [lessT, lessM, lessB, AV.less]
        · obtain ⟨k', rfl⟩ : ∃ k', k = k' + 1 := ⟨k - 1, by omega⟩
          rw [h2, if_pos rfl, fixA, ← ha]; rfl
        · have := hM.2 rfl hc
          dsimp only at this ⊢
          omega
        · dsimp only
          split <;> simp <;> omega
    · subst hb
      repeat (first | refine walkL_seq ?_ | refine walkL_skip ?_ | refine walkL_block ?_ | (refine walkL_region fun K hK => ?_; simp (maxSteps := 4000000) only [go_sem]; refine hK _ ?_; clear hK K) | refine walkL_nil ?_ | refine walkL_ret ?_ | refine walkL_exit ?_ | refine blockA_here ?_ | refine blockA_other rfl ?_ | refine blockA_ret ?_ | refine blockA_normal ?_ | refine thenA_ret ?_ | refine thenA_exit ?_ | refine thenA_normal ?_)
      simp (maxSteps := 4000000) only [go_sem]
      rw [h2]
      simp
end Go.Ab
namespace Go.Ab
open Go.RowKit Go.Proofs
attribute [local irreducible] WalkL Walk

def told1 (t : Int) : Int := if t = never then -1 else t

theorem told_step (l : List Int) (i : Nat) (h : i < l.length) : ((l.take i).map told1 ++ l.drop i).set i (told1 l[i]) = (l.take (i + 1)).map told1 ++ l.drop (i + 1) := by
  have h1 : ((l.take i).map told1).length = i := by simp; omega
  rw [List.set_append_right _ _ (by omega), h1, Nat.sub_self, List.drop_eq_getElem_cons h, List.set_cons_zero, List.take_add_one, List.map_append]
  simp [h]

theorem told_get (l : List Int) (i : Nat) (h : i < l.length) : ((l.take i).map told1 ++ l.drop i)[i]? = some l[i] := by
  have h1 : ((l.take i).map told1).length = i := by simp; omega
  rw [List.getElem?_append_right (by omega), h1]
  simp [h]

theorem told_len (l : List Int) (i : Nat) : ((l.take i).map told1 ++ l.drop i).length = l.length := by simp; omega

theorem set_same {α : Type} {l : List α} {i : Nat} {x : α} (h : l[i]? = some x) : l.set i x = l := by
  apply List.ext_getElem?
  intro k
  rw [List.getElem?_set]
  split
  · rename_i e; subst e; rw [if_pos (List.getElem?_eq_some_iff.1 h).1, h]
  · rfl

theorem f59 (l : List Int) (hl : l.length < 2 ^ 62) : FnG Try.prog 59 [.arr 3 1 (intRows l)] [0] [.own 0] (.own 0) [.arr 3 1 (intRows (l.map told1))] := by
  refine fnG_walk 19 Try.call59 Try.func59 rfl (by decide) [] [(0, 0)] (by simp only [List.length_cons, List.length_nil]; decide) (by kernel_rfl) fun J => ?_
  simp (maxSteps := 4000000) only [go_sem, St.startG, Try.ntmps59, Try.results59, List.map_cons, List.map_nil, List.range_succ]
  repeat (first | refine walkL_seq ?_ | refine walkL_skip ?_ | refine walkL_block ?_ | (refine walkL_region fun K hK => ?_; simp (maxSteps := 4000000) only [go_sem, intRows_len]; refine hK _ ?_; clear hK K) | refine walkL_nil ?_ | refine walkL_ret ?_ | refine walkL_exit ?_ | refine blockA_here ?_ | refine blockA_other rfl ?_ | refine blockA_ret ?_ | refine blockA_normal ?_ | refine thenA_ret ?_ | refine thenA_exit ?_ | refine thenA_normal ?_)
  refine walkL_loopS (fun (i : Nat) => [(7, .d (.i i))]) (fun i => [(19, some (.arr 3 1 (intRows ((l.take i).map told1 ++ l.drop i))))]) (fun i => i ≤ l.length) (fun i => l.length - i) 0 ?_ (Nat.zero_le _) ?_
  · simp (maxSteps := 4000000) only [go_sem]
    refine weak_of [] ?_ ?_ rfl rfl <;> simp [lessT, lessM, lessB, AV.less]
  · intro i hi
    simp (maxSteps := 4000000) only [go_sem]
    repeat (first | refine walkL_seq ?_ | refine walkL_skip ?_ | refine walkL_block ?_ | (refine walkL_region fun K hK => ?_; simp (maxSteps := 4000000) only [go_sem]; refine hK _ ?_; clear hK K) | refine walkL_nil ?_ | refine walkL_ret ?_ | refine walkL_exit ?_ | refine blockA_here ?_ | refine blockA_other rfl ?_ | refine blockA_ret ?_ | refine blockA_normal ?_ | refine thenA_ret ?_ | refine thenA_exit ?_ | refine thenA_normal ?_)
    refine walkL_cond rfl (fun hb => ?_) (fun hb => ?_)
    · have hlt : i < l.length := by simpa using hb
      have hw : IntKind.i64.wrap ((i : Int) + 1) = ((i + 1 : Nat) : Int) := by rw [wr_small (by omega)]; simp
      have hlen := told_len l i
      have g1 : (intRows ((l.take i).map told1 ++ l.drop i))[i]? = some [.i l[i]] := by simp only [intRows, List.getElem?_map, told_get l i hlt, Option.map_some]
      have hn := told_step l i hlt
      repeat (first | refine walkL_seq ?_ | refine walkL_skip ?_ | refine walkL_block ?_ | (refine walkL_region fun K hK => ?_; simp (maxSteps := 4000000) only [go_sem, hlt, intRows_len, hlen, g1, hw]; refine hK _ ?_; clear hK K) | refine walkL_nil ?_ | refine walkL_ret ?_ | refine walkL_exit ?_ | refine blockA_here ?_ | refine blockA_other rfl ?_ | refine blockA_ret ?_ | refine blockA_normal ?_ | refine thenA_ret ?_ | refine thenA_exit ?_ | refine thenA_normal ?_)
      refine walkL_cond rfl (fun hc => ?_) (fun hc => ?_)
      · have hc : l[i] = never := by simpa [never] using hc
        have ht : told1 l[i] = -1 := by unfold told1; rw [if_pos hc]
        rw [ht] at hn
        repeat (first | refine walkL_seq ?_ | refine walkL_skip ?_ | refine walkL_block ?_ | (refine walkL_region fun K hK => ?_; simp (maxSteps := 4000000) only [go_sem, hlt, intRows_len, hlen, g1, hw]; refine hK _ ?_; clear hK K) | refine walkL_nil ?_ | refine walkL_ret ?_ | refine walkL_exit ?_ | refine blockA_here ?_ | refine blockA_other rfl ?_ | refine blockA_ret ?_ | refine blockA_normal ?_ | refine thenA_ret ?_ | refine thenA_exit ?_ | refine thenA_normal ?_)
        refine ⟨rfl, i + 1, ?_, hlt, by omega⟩
        rw [← hn, ← intRows_set]
        refine weak_of [] ?_ ?_ rfl rfl <;> simp [lessT, lessM, lessB, AV.less]
      · have hc : ¬ l[i] = never := by intro e; rw [e] at hc; simp [never] at hc
        have ht : told1 l[i] = l[i] := by unfold told1; rw [if_neg hc]
        repeat (first | refine walkL_seq ?_ | refine walkL_skip ?_ | refine walkL_block ?_ | (refine walkL_region fun K hK => ?_; simp (maxSteps := 4000000) only [go_sem, hlt, intRows_len, hlen, g1, hw]; refine hK _ ?_; clear hK K) | refine walkL_nil ?_ | refine walkL_ret ?_ | refine walkL_exit ?_ | refine blockA_here ?_ | refine blockA_other rfl ?_ | refine blockA_ret ?_ | refine blockA_normal ?_ | refine thenA_ret ?_ | refine thenA_exit ?_ | refine thenA_normal ?_)
        refine ⟨rfl, i + 1, ?_, hlt, by omega⟩
        rw [ht, set_same (told_get l i hlt)] at hn
        rw [← hn]
        refine weak_of [] ?_ ?_ rfl rfl <;> simp [lessT, lessM, lessB, AV.less]
    · have he : i = l.length := by have : ¬ i < l.length := by simpa using hb
                                   omega
      subst he
      repeat (first | refine walkL_seq ?_ | refine walkL_skip ?_ | refine walkL_block ?_ | (refine walkL_region fun K hK => ?_; simp (maxSteps := 4000000) only [go_sem]; refine hK _ ?_; clear hK K) | refine walkL_nil ?_ | refine walkL_ret ?_ | refine walkL_exit ?_ | refine blockA_here ?_ | refine blockA_other rfl ?_ | refine blockA_ret ?_ | refine blockA_normal ?_ | refine thenA_ret ?_ | refine thenA_exit ?_ | refine thenA_normal ?_)
      simp (maxSteps := 4000000) only [go_sem, List.take_length, List.drop_length]
end Go.Ab
namespace Go.Ab
open Go.RowKit Go.Proofs
attribute [local irreducible] WalkL Walk

/-- Lengths that fit. -/
structure Net.Small (n : Net) : Prop where
  paths : n.paths.length < 2 ^ 30
  opens : ∀ x ∈ n.paths, x.opens.length < 2 ^ 30

/-- What a path must not be. -/
def wrong1 (n : Net) (x : Path) : Bool :=
  !withinB x.frm 0 (n.places - 1) || (!withinB x.to 0 (n.places - 1) || (x.frm == x.to || (!withinB x.grade 1 6 || (!orderedB x.time 1 600 || (!orderedB x.snow 0 30 || decide ((x.opens.length : Int) > 6))))))
def wrongB (n : Net) (x : Path) : Bool := wrong1 n x || x.opens.any (fun s => !orderedB s 0 2880)

theorem f68 (n : Net) (x : Path) (hn : 0 ≤ n.places ∧ n.places < 2 ^ 62) (hl : x.opens.length < 2 ^ 30) :
    Fn Try.prog 68 [.agg x.row, .ptr [.fn 64 [.ptr n.cells 0]] 0, .ptr [.fn 66 []] 0] (.bool (wrongB n x)) := by
  refine fn_walk 54 Try.call68 Try.func68 rfl (by decide) fun J => ?_
  simp (maxSteps := 4000000) only [go_sem, St.start, Try.ntmps68, Try.results68, Path.row, Net.cells]
  have h66 := fun s (_ : s ∈ x.opens) => f66 s (.i 0)
  repeat (first | refine walkL_seq ?_ | refine walkL_skip ?_ | refine walkL_block ?_ | (refine walkL_region fun K hK => ?_; simp (maxSteps := 4000000) only [go_sem]; refine hK _ ?_; clear hK K) | refine walkL_nil ?_ | refine walkL_ret ?_ | refine walkL_exit ?_ | refine blockA_here ?_ | refine blockA_other rfl ?_ | refine blockA_ret ?_ | refine blockA_normal ?_ | refine thenA_ret ?_ | refine thenA_exit ?_ | refine thenA_normal ?_)
  refine walkL_meetS [(4, .d (.bool (wrongB n x)))] [] ?_ ?_
  · refine walkL_region fun K hK => ?_
    simp (maxSteps := 4000000) only [go_sem]
    refine ⟨_, .lent (hf := f64 n x.frm hn) (hd := rfl) (hr := rfl), ?_⟩
    simp (maxSteps := 4000000) only [go_sem]
    by_cases ho0 : (!withinB x.frm 0 (n.places - 1)) = true
    · simp (maxSteps := 4000000) only [go_sem, ho0]
      refine hK _ ?_
      clear hK K
      refine walkL_nil ?_
      refine thenA_normal ?_
      refine ⟨rfl, ?_⟩
      rw [show (wrongB n x) = (true) from by simp [wrongB, wrong1, ho0]]
      simp (maxSteps := 4000000) only [go_sem]
      refine weak_of [] ?_ ?_ rfl rfl <;> simp [lessT, lessM, lessB, AV.less]
    · simp (maxSteps := 4000000) only [go_sem, ho0]
      refine ⟨_, .lent (hf := f64 n x.to hn) (hd := rfl) (hr := rfl), ?_⟩
      simp (maxSteps := 4000000) only [go_sem, ho0]
      by_cases ho1 : (!withinB x.to 0 (n.places - 1)) = true
      · simp (maxSteps := 4000000) only [go_sem, ho0, ho1]
        refine hK _ ?_
        clear hK K
        refine walkL_nil ?_
        refine thenA_normal ?_
        refine ⟨rfl, ?_⟩
        rw [show (wrongB n x) = (true) from by simp [wrongB, wrong1, ho0, ho1]]
        simp (maxSteps := 4000000) only [go_sem]
        refine weak_of [] ?_ ?_ rfl rfl <;> simp [lessT, lessM, lessB, AV.less]
      · simp (maxSteps := 4000000) only [go_sem, ho0, ho1]
        by_cases ho2 : (x.frm == x.to) = true
        · simp (maxSteps := 4000000) only [go_sem, ho0, ho1, ho2]
          refine hK _ ?_
          clear hK K
          refine walkL_nil ?_
          refine thenA_normal ?_
          refine ⟨rfl, ?_⟩
          rw [show (wrongB n x) = (true) from by simp [wrongB, wrong1, ho0, ho1, ho2]]
          simp (maxSteps := 4000000) only [go_sem]
          refine weak_of [] ?_ ?_ rfl rfl <;> simp [lessT, lessM, lessB, AV.less]
        · simp (maxSteps := 4000000) only [go_sem, ho0, ho1, ho2]
          refine ⟨_, .lent (hf := f65 x.grade 1 6) (hd := rfl) (hr := rfl), ?_⟩
          simp (maxSteps := 4000000) only [go_sem, ho0, ho1, ho2]
          by_cases ho3 : (!withinB x.grade 1 6) = true
          · simp (maxSteps := 4000000) only [go_sem, ho0, ho1, ho2, ho3]
            refine hK _ ?_
            clear hK K
            refine walkL_nil ?_
            refine thenA_normal ?_
            refine ⟨rfl, ?_⟩
            rw [show (wrongB n x) = (true) from by simp [wrongB, wrong1, ho0, ho1, ho2, ho3]]
            simp (maxSteps := 4000000) only [go_sem]
            refine weak_of [] ?_ ?_ rfl rfl <;> simp [lessT, lessM, lessB, AV.less]
          · simp (maxSteps := 4000000) only [go_sem, ho0, ho1, ho2, ho3]
            refine ⟨_, .lent (hf := f67 x.time 1 600) (hd := rfl) (hr := rfl), ?_⟩
            simp (maxSteps := 4000000) only [go_sem, ho0, ho1, ho2, ho3]
            by_cases ho4 : (!orderedB x.time 1 600) = true
            · simp (maxSteps := 4000000) only [go_sem, ho0, ho1, ho2, ho3, ho4]
              refine hK _ ?_
              clear hK K
              refine walkL_nil ?_
              refine thenA_normal ?_
              refine ⟨rfl, ?_⟩
              rw [show (wrongB n x) = (true) from by simp [wrongB, wrong1, ho0, ho1, ho2, ho3, ho4]]
              simp (maxSteps := 4000000) only [go_sem]
              refine weak_of [] ?_ ?_ rfl rfl <;> simp [lessT, lessM, lessB, AV.less]
            · simp (maxSteps := 4000000) only [go_sem, ho0, ho1, ho2, ho3, ho4]
              refine ⟨_, .lent (hf := f67 x.snow 0 30) (hd := rfl) (hr := rfl), ?_⟩
              simp (maxSteps := 4000000) only [go_sem, ho0, ho1, ho2, ho3, ho4]
              by_cases ho5 : (!orderedB x.snow 0 30) = true
              · simp (maxSteps := 4000000) only [go_sem, ho0, ho1, ho2, ho3, ho4, ho5]
                refine hK _ ?_
                clear hK K
                refine walkL_nil ?_
                refine thenA_normal ?_
                refine ⟨rfl, ?_⟩
                rw [show (wrongB n x) = (true) from by simp [wrongB, wrong1, ho0, ho1, ho2, ho3, ho4, ho5]]
                simp (maxSteps := 4000000) only [go_sem]
                refine weak_of [] ?_ ?_ rfl rfl <;> simp [lessT, lessM, lessB, AV.less]
              · simp (maxSteps := 4000000) only [go_sem, ho0, ho1, ho2, ho3, ho4, ho5]
                by_cases ho6 : (decide ((x.opens.length : Int) > 6)) = true
                · simp (maxSteps := 4000000) only [go_sem, ho0, ho1, ho2, ho3, ho4, ho5, ho6]
                  refine hK _ ?_
                  clear hK K
                  refine walkL_nil ?_
                  refine thenA_normal ?_
                  refine ⟨rfl, ?_⟩
                  rw [show (wrongB n x) = (true) from by simp [wrongB, wrong1, ho0, ho1, ho2, ho3, ho4, ho5, ho6]]
                  simp (maxSteps := 4000000) only [go_sem]
                  refine weak_of [] ?_ ?_ rfl rfl <;> simp [lessT, lessM, lessB, AV.less]
                · simp (maxSteps := 4000000) only [go_sem, ho0, ho1, ho2, ho3, ho4, ho5, ho6]
                  refine ⟨_, .lent (hf := f69 x.opens 66 [] _ h66 (by omega)) (hd := rfl) (hr := rfl), ?_⟩
                  simp (maxSteps := 4000000) only [go_sem, ho0, ho1, ho2, ho3, ho4, ho5, ho6]
                  refine hK _ ?_
                  clear hK K
                  refine walkL_nil ?_
                  refine thenA_normal ?_
                  refine ⟨rfl, ?_⟩
                  rw [show (wrongB n x) = (x.opens.any (fun s => !orderedB s 0 2880)) from by simp [wrongB, wrong1, ho0, ho1, ho2, ho3, ho4, ho5, ho6]]
                  simp (maxSteps := 4000000) only [go_sem]
                  refine weak_of [] ?_ ?_ rfl rfl <;> simp [lessT, lessM, lessB, AV.less]
  · simp (maxSteps := 4000000) only [go_sem]
    repeat (first | refine walkL_seq ?_ | refine walkL_skip ?_ | refine walkL_block ?_ | (refine walkL_region fun K hK => ?_; simp (maxSteps := 4000000) only [go_sem]; refine hK _ ?_; clear hK K) | refine walkL_nil ?_ | refine walkL_ret ?_ | refine walkL_exit ?_ | refine blockA_here ?_ | refine blockA_other rfl ?_ | refine blockA_ret ?_ | refine blockA_normal ?_ | refine thenA_ret ?_ | refine thenA_exit ?_ | refine thenA_normal ?_)
    simp (maxSteps := 4000000) only [go_sem]

/-- The error of a net: as the program and its document reckon it. -/
def badNet (n : Net) : Bool := !withinB n.places 1 12 || (decide ((n.paths.length : Int) > 24) || n.paths.any (wrongB n))
def checkF (n : Net) : Int := if badNet n then 10 else 0

theorem within_iff {x lo hi : Int} : withinB x lo hi = true ↔ lo ≤ x ∧ x ≤ hi := by simp [withinB]

theorem f26 (n : Net) (hs : n.Small) : Fn Try.prog 26 [.agg n.cells] (.i (checkF n)) := by
  refine fn_walk 24 Try.call26 Try.func26 rfl (by decide) fun J => ?_
  simp (maxSteps := 4000000) only [go_sem, St.start, Try.ntmps26, Try.results26, Net.cells]
  have h68 : withinB n.places 1 12 = true → ∀ x ∈ n.paths, Fn Try.prog 68 [.agg x.row, .ptr [.fn 64 [.ptr n.cells 0]] 0, .ptr [.fn 66 []] 0] (.bool (wrongB n x)) := fun h x hx =>
    f68 n x (by have := within_iff.1 h; omega) (hs.opens x hx)
  have h70 := fun h => f70 n.paths 68 [.ptr [.fn 64 [.ptr n.cells 0]] 0, .ptr [.fn 66 []] 0] (wrongB n) (h68 h) (Nat.lt_trans hs.paths (by decide))
  repeat (first | refine walkL_seq ?_ | refine walkL_skip ?_ | refine walkL_block ?_ | (refine walkL_region fun K hK => ?_; simp (maxSteps := 4000000) only [go_sem]; refine hK _ ?_; clear hK K) | refine walkL_nil ?_ | refine walkL_ret ?_ | refine walkL_exit ?_ | refine blockA_here ?_ | refine blockA_other rfl ?_ | refine blockA_ret ?_ | refine blockA_normal ?_ | refine thenA_ret ?_ | refine thenA_exit ?_ | refine thenA_normal ?_)
  refine walkL_meetS [(23, .d (.bool (badNet n)))] [] ?_ ?_
  · refine walkL_region fun K hK => ?_
    simp (maxSteps := 4000000) only [go_sem]
    refine ⟨_, .lent (hf := f65 n.places 1 12) (hd := rfl) (hr := rfl), ?_⟩
    simp (maxSteps := 4000000) only [go_sem]
    by_cases ho0 : (!withinB n.places 1 12) = true
    · simp (maxSteps := 4000000) only [go_sem, ho0]
      refine hK _ ?_
      clear hK K
      refine walkL_nil ?_
      refine thenA_normal ?_
      refine ⟨rfl, ?_⟩
      rw [show (badNet n) = (true) from by simp [badNet, ho0]]
      simp (maxSteps := 4000000) only [go_sem]
      refine weak_of [] ?_ ?_ rfl rfl <;> simp [lessT, lessM, lessB, AV.less]
    · simp (maxSteps := 4000000) only [go_sem, ho0]
      by_cases ho1 : (decide ((n.paths.length : Int) > 24)) = true
      · simp (maxSteps := 4000000) only [go_sem, ho0, ho1]
        refine hK _ ?_
        clear hK K
        refine walkL_nil ?_
        refine thenA_normal ?_
        refine ⟨rfl, ?_⟩
        rw [show (badNet n) = (true) from by simp [badNet, ho0, ho1]]
        simp (maxSteps := 4000000) only [go_sem]
        refine weak_of [] ?_ ?_ rfl rfl <;> simp [lessT, lessM, lessB, AV.less]
      · simp (maxSteps := 4000000) only [go_sem, ho0, ho1]
        refine ⟨_, .lent (hf := h70 (by simpa using ho0)) (hd := rfl) (hr := rfl), ?_⟩
        simp (maxSteps := 4000000) only [go_sem, ho0, ho1]
        refine hK _ ?_
        clear hK K
        refine walkL_nil ?_
        refine thenA_normal ?_
        refine ⟨rfl, ?_⟩
        rw [show (badNet n) = (n.paths.any (wrongB n)) from by simp [badNet, ho0, ho1]]
        simp (maxSteps := 4000000) only [go_sem]
        refine weak_of [] ?_ ?_ rfl rfl <;> simp [lessT, lessM, lessB, AV.less]
  · simp (maxSteps := 4000000) only [go_sem]
    repeat (first | refine walkL_seq ?_ | refine walkL_skip ?_ | refine walkL_block ?_ | (refine walkL_region fun K hK => ?_; simp (maxSteps := 4000000) only [go_sem]; refine hK _ ?_; clear hK K) | refine walkL_nil ?_ | refine walkL_ret ?_ | refine walkL_exit ?_ | refine blockA_here ?_ | refine blockA_other rfl ?_ | refine blockA_ret ?_ | refine blockA_normal ?_ | refine thenA_ret ?_ | refine thenA_exit ?_ | refine thenA_normal ?_)
    refine walkL_cond rfl (fun hc => ?_) (fun hc => ?_)
    · repeat (first | refine walkL_seq ?_ | refine walkL_skip ?_ | refine walkL_block ?_ | (refine walkL_region fun K hK => ?_; simp (maxSteps := 4000000) only [go_sem]; refine hK _ ?_; clear hK K) | refine walkL_nil ?_ | refine walkL_ret ?_ | refine walkL_exit ?_ | refine blockA_here ?_ | refine blockA_other rfl ?_ | refine blockA_ret ?_ | refine blockA_normal ?_ | refine thenA_ret ?_ | refine thenA_exit ?_ | refine thenA_normal ?_)
      simp (maxSteps := 4000000) only [go_sem, checkF, hc]
    · repeat (first | refine walkL_seq ?_ | refine walkL_skip ?_ | refine walkL_block ?_ | (refine walkL_region fun K hK => ?_; simp (maxSteps := 4000000) only [go_sem]; refine hK _ ?_; clear hK K) | refine walkL_nil ?_ | refine walkL_ret ?_ | refine walkL_exit ?_ | refine blockA_here ?_ | refine blockA_other rfl ?_ | refine blockA_ret ?_ | refine blockA_normal ?_ | refine thenA_ret ?_ | refine thenA_exit ?_ | refine thenA_normal ?_)
      simp (maxSteps := 4000000) only [go_sem, checkF, hc]
end Go.Ab
namespace Go.Ab
open Go.RowKit Go.Proofs
set_option maxHeartbeats 4000000
attribute [local irreducible] WalkL Walk

theorem any_take_succ {α : Type} {q : α → Bool} {l : List α} {i : Nat} {x : α} (h : l[i]? = some x) (h0 : (l.take i).any q = false) (hx : q x = false) : (l.take (i + 1)).any q = false := by
  rw [List.take_add_one, h, List.any_append, h0]; simp [hx]

theorem any_of_get {α : Type} {q : α → Bool} {l : List α} {i : Nat} {x : α} (h : l[i]? = some x) (hx : q x = true) : l.any q = true := List.any_eq_true.2 ⟨x, List.mem_of_getElem? h, hx⟩

theorem f27 (n : Net) (hs : n.Small) : Fn Try.prog 27 [.agg n.cells] (.i (checkF n)) := by
  refine fn_walk 85 Try.call27 Try.func27 rfl (by decide) fun J => ?_
  simp (maxSteps := 4000000) only [go_sem, St.start, Try.ntmps27, Try.results27, Net.cells]
  repeat (first | refine walkL_seq ?_ | refine walkL_skip ?_ | refine walkL_block ?_ | (refine walkL_region fun K hK => ?_; simp (maxSteps := 4000000) only [go_sem]; refine hK _ ?_; clear hK K) | refine walkL_nil ?_ | refine walkL_ret ?_ | refine walkL_exit ?_ | refine blockA_here ?_ | refine blockA_other rfl ?_ | refine blockA_ret ?_ | refine blockA_normal ?_ | refine thenA_ret ?_ | refine thenA_exit ?_ | refine thenA_normal ?_)
  refine walkL_meetS [(15, .d (.bool (!withinB n.places 1 12 || decide ((n.paths.length : Int) > 24))))] [] ?_ ?_
  · refine walkL_region fun K hK => ?_
    simp (maxSteps := 4000000) only [go_sem]
    refine ⟨_, .lent (hf := f71 n.places 1 12) (hd := rfl) (hr := rfl), ?_⟩
    simp (maxSteps := 4000000) only [go_sem]
    by_cases ho0 : (!withinB n.places 1 12) = true
    · simp (maxSteps := 4000000) only [go_sem, ho0]
      refine hK _ ?_
      clear hK K
      refine walkL_nil ?_
      refine thenA_normal ?_
      refine ⟨rfl, ?_⟩
      rw [show (!withinB n.places 1 12 || decide ((n.paths.length : Int) > 24)) = (true) from by simp [ho0]]
      simp (maxSteps := 4000000) only [go_sem]
      refine weak_of [] ?_ ?_ rfl rfl <;> simp [lessT, lessM, lessB, AV.less]
    · simp (maxSteps := 4000000) only [go_sem, ho0]
      refine hK _ ?_
      clear hK K
      refine walkL_nil ?_
      refine thenA_normal ?_
      refine ⟨rfl, ?_⟩
      rw [show (!withinB n.places 1 12 || decide ((n.paths.length : Int) > 24)) = (decide ((n.paths.length : Int) > 24)) from by simp [ho0]]
      simp (maxSteps := 4000000) only [go_sem]
      refine weak_of [] ?_ ?_ rfl rfl <;> simp [lessT, lessM, lessB, AV.less]
  simp (maxSteps := 4000000) only [go_sem]
  refine walkL_cond rfl (fun hc => ?_) (fun hc => ?_)
  · repeat (first | refine walkL_seq ?_ | refine walkL_skip ?_ | refine walkL_block ?_ | (refine walkL_region fun K hK => ?_; simp (maxSteps := 4000000) only [go_sem]; refine hK _ ?_; clear hK K) | refine walkL_nil ?_ | refine walkL_ret ?_ | refine walkL_exit ?_ | refine blockA_here ?_ | refine blockA_other rfl ?_ | refine blockA_ret ?_ | refine blockA_normal ?_ | refine thenA_ret ?_ | refine thenA_exit ?_ | refine thenA_normal ?_)
    have hb : badNet n = true := by unfold badNet; rw [← Bool.or_assoc, hc]; rfl
    simp (maxSteps := 4000000) only [go_sem, checkF, hb]
  · rw [Bool.or_eq_false_iff] at hc
    have hpl := within_iff.1 (show withinB n.places 1 12 = true by simpa using hc.1)
    have hbad : badNet n = n.paths.any (wrongB n) := by unfold badNet; rw [← Bool.or_assoc, hc.1, hc.2]; rfl
    repeat (first | refine walkL_seq ?_ | refine walkL_skip ?_ | refine walkL_block ?_ | (refine walkL_region fun K hK => ?_; simp (maxSteps := 4000000) only [go_sem]; refine hK _ ?_; clear hK K) | refine walkL_nil ?_ | refine walkL_ret ?_ | refine walkL_exit ?_ | refine blockA_here ?_ | refine blockA_other rfl ?_ | refine blockA_ret ?_ | refine blockA_normal ?_ | refine thenA_ret ?_ | refine thenA_exit ?_ | refine thenA_normal ?_)
    refine walkL_loopS (fun (i : Nat) => [(3, .d (.i i))]) (fun _ => []) (fun i => i ≤ n.paths.length ∧ (n.paths.take i).any (wrongB n) = false) (fun i => n.paths.length - i) 0 ?_ ⟨Nat.zero_le _, rfl⟩ ?_
    · simp (maxSteps := 4000000) only [go_sem]
      refine weak_of [] ?_ ?_ rfl rfl <;> simp [lessT, lessM, lessB, AV.less]
    · intro i ⟨hi, hall⟩
      have hbound := hs.paths
      simp (maxSteps := 4000000) only [go_sem]
      repeat (first | refine walkL_seq ?_ | refine walkL_skip ?_ | refine walkL_block ?_ | (refine walkL_region fun K hK => ?_; simp (maxSteps := 4000000) only [go_sem]; refine hK _ ?_; clear hK K) | refine walkL_nil ?_ | refine walkL_ret ?_ | refine walkL_exit ?_ | refine blockA_here ?_ | refine blockA_other rfl ?_ | refine blockA_ret ?_ | refine blockA_normal ?_ | refine thenA_ret ?_ | refine thenA_exit ?_ | refine thenA_normal ?_)
      refine walkL_cond rfl (fun hb => ?_) (fun hb => ?_)
      · have hlt : i < n.paths.length := by simpa using hb
        have hw : IntKind.i64.wrap ((i : Int) + 1) = ((i + 1 : Nat) : Int) := by rw [wr_small (by omega)]; simp
        obtain ⟨x, hx⟩ : ∃ x, n.paths[i]? = some x := ⟨_, List.getElem?_eq_getElem hlt⟩
        have hxo := hs.opens x (List.mem_of_getElem? hx)
        have hp62 : -(2 ^ 62) ≤ n.places ∧ n.places < 2 ^ 62 := by omega
        repeat (first | refine walkL_seq ?_ | refine walkL_skip ?_ | refine walkL_block ?_ | (refine walkL_region fun K hK => ?_; simp (maxSteps := 4000000) only [go_sem, hx, List.getElem?_map, Path.row]; refine hK _ ?_; clear hK K) | refine walkL_nil ?_ | refine walkL_ret ?_ | refine walkL_exit ?_ | refine blockA_here ?_ | refine blockA_other rfl ?_ | refine blockA_ret ?_ | refine blockA_normal ?_ | refine thenA_ret ?_ | refine thenA_exit ?_ | refine thenA_normal ?_)
        refine walkL_meetS [(70, .d (.bool (wrong1 n x)))] [] ?_ ?_
        · refine walkL_region fun K hK => ?_
          simp (maxSteps := 4000000) only [go_sem]
          refine ⟨_, .lent (hf := f57 n x.frm hp62) (hd := rfl) (hr := rfl), ?_⟩
          simp (maxSteps := 4000000) only [go_sem]
          by_cases ho0 : (!withinB x.frm 0 (n.places - 1)) = true
          · simp (maxSteps := 4000000) only [go_sem, ho0]
            refine hK _ ?_
            clear hK K
            refine walkL_nil ?_
            refine thenA_normal ?_
            refine ⟨rfl, ?_⟩
            rw [show (wrong1 n x) = (true) from by simp [wrong1, ho0]]
            simp (maxSteps := 4000000) only [go_sem]
            refine weak_of [] ?_ ?_ rfl rfl <;> simp [lessT, lessM, lessB, AV.less]
          · simp (maxSteps := 4000000) only [go_sem, ho0]
            refine ⟨_, .lent (hf := f57 n x.to hp62) (hd := rfl) (hr := rfl), ?_⟩
            simp (maxSteps := 4000000) only [go_sem, ho0]
            by_cases ho1 : (!withinB x.to 0 (n.places - 1)) = true
            · simp (maxSteps := 4000000) only [go_sem, ho0, ho1]
              refine hK _ ?_
              clear hK K
              refine walkL_nil ?_
              refine thenA_normal ?_
              refine ⟨rfl, ?_⟩
              rw [show (wrong1 n x) = (true) from by simp [wrong1, ho0, ho1]]
              simp (maxSteps := 4000000) only [go_sem]
              refine weak_of [] ?_ ?_ rfl rfl <;> simp [lessT, lessM, lessB, AV.less]
            · simp (maxSteps := 4000000) only [go_sem, ho0, ho1]
              by_cases ho2 : (x.frm == x.to) = true
              · simp (maxSteps := 4000000) only [go_sem, ho0, ho1, ho2]
                refine hK _ ?_
                clear hK K
                refine walkL_nil ?_
                refine thenA_normal ?_
                refine ⟨rfl, ?_⟩
                rw [show (wrong1 n x) = (true) from by simp [wrong1, ho0, ho1, ho2]]
                simp (maxSteps := 4000000) only [go_sem]
                refine weak_of [] ?_ ?_ rfl rfl <;> simp [lessT, lessM, lessB, AV.less]
              · simp (maxSteps := 4000000) only [go_sem, ho0, ho1, ho2]
                refine ⟨_, .lent (hf := f71 x.grade 1 6) (hd := rfl) (hr := rfl), ?_⟩
                simp (maxSteps := 4000000) only [go_sem, ho0, ho1, ho2]
                by_cases ho3 : (!withinB x.grade 1 6) = true
                · simp (maxSteps := 4000000) only [go_sem, ho0, ho1, ho2, ho3]
                  refine hK _ ?_
                  clear hK K
                  refine walkL_nil ?_
                  refine thenA_normal ?_
                  refine ⟨rfl, ?_⟩
                  rw [show (wrong1 n x) = (true) from by simp [wrong1, ho0, ho1, ho2, ho3]]
                  simp (maxSteps := 4000000) only [go_sem]
                  refine weak_of [] ?_ ?_ rfl rfl <;> simp [lessT, lessM, lessB, AV.less]
                · simp (maxSteps := 4000000) only [go_sem, ho0, ho1, ho2, ho3]
                  refine ⟨_, .lent (hf := f72 x.time 1 600) (hd := rfl) (hr := rfl), ?_⟩
                  simp (maxSteps := 4000000) only [go_sem, ho0, ho1, ho2, ho3]
                  by_cases ho4 : (!orderedB x.time 1 600) = true
                  · simp (maxSteps := 4000000) only [go_sem, ho0, ho1, ho2, ho3, ho4]
                    refine hK _ ?_
                    clear hK K
                    refine walkL_nil ?_
                    refine thenA_normal ?_
                    refine ⟨rfl, ?_⟩
                    rw [show (wrong1 n x) = (true) from by simp [wrong1, ho0, ho1, ho2, ho3, ho4]]
                    simp (maxSteps := 4000000) only [go_sem]
                    refine weak_of [] ?_ ?_ rfl rfl <;> simp [lessT, lessM, lessB, AV.less]
                  · simp (maxSteps := 4000000) only [go_sem, ho0, ho1, ho2, ho3, ho4]
                    refine ⟨_, .lent (hf := f72 x.snow 0 30) (hd := rfl) (hr := rfl), ?_⟩
                    simp (maxSteps := 4000000) only [go_sem, ho0, ho1, ho2, ho3, ho4]
                    by_cases ho5 : (!orderedB x.snow 0 30) = true
                    · simp (maxSteps := 4000000) only [go_sem, ho0, ho1, ho2, ho3, ho4, ho5]
                      refine hK _ ?_
                      clear hK K
                      refine walkL_nil ?_
                      refine thenA_normal ?_
                      refine ⟨rfl, ?_⟩
                      rw [show (wrong1 n x) = (true) from by simp [wrong1, ho0, ho1, ho2, ho3, ho4, ho5]]
                      simp (maxSteps := 4000000) only [go_sem]
                      refine weak_of [] ?_ ?_ rfl rfl <;> simp [lessT, lessM, lessB, AV.less]
                    · simp (maxSteps := 4000000) only [go_sem, ho0, ho1, ho2, ho3, ho4, ho5]
                      refine hK _ ?_
                      clear hK K
                      refine walkL_nil ?_
                      refine thenA_normal ?_
                      refine ⟨rfl, ?_⟩
                      rw [show (wrong1 n x) = (decide ((x.opens.length : Int) > 6)) from by simp [wrong1, ho0, ho1, ho2, ho3, ho4, ho5]]
                      simp (maxSteps := 4000000) only [go_sem]
                      refine weak_of [] ?_ ?_ rfl rfl <;> simp [lessT, lessM, lessB, AV.less]
        simp (maxSteps := 4000000) only [go_sem]
        refine walkL_cond rfl (fun hc1 => ?_) (fun hc1 => ?_)
        · repeat (first | refine walkL_seq ?_ | refine walkL_skip ?_ | refine walkL_block ?_ | (refine walkL_region fun K hK => ?_; simp (maxSteps := 4000000) only [go_sem]; refine hK _ ?_; clear hK K) | refine walkL_nil ?_ | refine walkL_ret ?_ | refine walkL_exit ?_ | refine blockA_here ?_ | refine blockA_other rfl ?_ | refine blockA_ret ?_ | refine blockA_normal ?_ | refine thenA_ret ?_ | refine thenA_exit ?_ | refine thenA_normal ?_)
          have hb : badNet n = true := by rw [hbad]; exact any_of_get hx (by unfold wrongB; rw [hc1]; rfl)
          simp (maxSteps := 4000000) only [go_sem, checkF, hb]
        · repeat (first | refine walkL_seq ?_ | refine walkL_skip ?_ | refine walkL_block ?_ | (refine walkL_region fun K hK => ?_; simp (maxSteps := 4000000) only [go_sem]; refine hK _ ?_; clear hK K) | refine walkL_nil ?_ | refine walkL_ret ?_ | refine walkL_exit ?_ | refine blockA_here ?_ | refine blockA_other rfl ?_ | refine blockA_ret ?_ | refine blockA_normal ?_ | refine thenA_ret ?_ | refine thenA_exit ?_ | refine thenA_normal ?_)
          refine walkL_loopS (fun (k : Nat) => [(5, .d (.i k))]) (fun _ => []) (fun k => k ≤ x.opens.length ∧ (x.opens.take k).any (fun s => !orderedB s 0 2880) = false) (fun k => x.opens.length - k) 0 ?_ ⟨Nat.zero_le _, rfl⟩ ?_
          · simp (maxSteps := 4000000) only [go_sem]
            refine weak_of [] ?_ ?_ rfl rfl <;> simp [lessT, lessM, lessB, AV.less]
          · intro k ⟨hk, hkall⟩
            simp (maxSteps := 4000000) only [go_sem]
            repeat (first | refine walkL_seq ?_ | refine walkL_skip ?_ | refine walkL_block ?_ | (refine walkL_region fun K hK => ?_; simp (maxSteps := 4000000) only [go_sem]; refine hK _ ?_; clear hK K) | refine walkL_nil ?_ | refine walkL_ret ?_ | refine walkL_exit ?_ | refine blockA_here ?_ | refine blockA_other rfl ?_ | refine blockA_ret ?_ | refine blockA_normal ?_ | refine thenA_ret ?_ | refine thenA_exit ?_ | refine thenA_normal ?_)
            refine walkL_cond rfl (fun hb => ?_) (fun hb => ?_)
            · have hlk : k < x.opens.length := by simpa using hb
              have hwk : IntKind.i64.wrap ((k : Int) + 1) = ((k + 1 : Nat) : Int) := by rw [wr_small (by omega)]; simp
              obtain ⟨s, hs1⟩ : ∃ s, x.opens[k]? = some s := ⟨_, List.getElem?_eq_getElem hlk⟩
              repeat (first | refine walkL_seq ?_ | refine walkL_skip ?_ | refine walkL_block ?_ | (refine walkL_region fun K hK => ?_; simp (maxSteps := 4000000) only [go_sem, hs1, List.getElem?_map, Span.row]; (repeat (first | (refine ⟨_, .lent (hf := f72 s 0 2880) (hd := rfl) (hr := rfl), ?_⟩; simp (maxSteps := 4000000) only [go_sem, hs1, List.getElem?_map, Span.row]) | (refine ⟨_, .given (hf := f72 s 0 2880) (hd := rfl) (ha := rfl), ?_⟩; simp (maxSteps := 4000000) only [go_sem, hs1, List.getElem?_map, Span.row]))); refine hK _ ?_; clear hK K) | refine walkL_nil ?_ | refine walkL_ret ?_ | refine walkL_exit ?_ | refine blockA_here ?_ | refine blockA_other rfl ?_ | refine blockA_ret ?_ | refine blockA_normal ?_ | refine thenA_ret ?_ | refine thenA_exit ?_ | refine thenA_normal ?_)
              refine walkL_cond rfl (fun hc2 => ?_) (fun hc2 => ?_)
              · repeat (first | refine walkL_seq ?_ | refine walkL_skip ?_ | refine walkL_block ?_ | (refine walkL_region fun K hK => ?_; simp (maxSteps := 4000000) only [go_sem]; refine hK _ ?_; clear hK K) | refine walkL_nil ?_ | refine walkL_ret ?_ | refine walkL_exit ?_ | refine blockA_here ?_ | refine blockA_other rfl ?_ | refine blockA_ret ?_ | refine blockA_normal ?_ | refine thenA_ret ?_ | refine thenA_exit ?_ | refine thenA_normal ?_)
                have hb : badNet n = true := by rw [hbad]; exact any_of_get hx (by unfold wrongB; rw [any_of_get hs1 hc2]; simp)
                simp (maxSteps := 4000000) only [go_sem, checkF, hb]
              · repeat (first | refine walkL_seq ?_ | refine walkL_skip ?_ | refine walkL_block ?_ | (refine walkL_region fun K hK => ?_; simp (maxSteps := 4000000) only [go_sem, hwk]; refine hK _ ?_; clear hK K) | refine walkL_nil ?_ | refine walkL_ret ?_ | refine walkL_exit ?_ | refine blockA_here ?_ | refine blockA_other rfl ?_ | refine blockA_ret ?_ | refine blockA_normal ?_ | refine thenA_ret ?_ | refine thenA_exit ?_ | refine thenA_normal ?_)
                refine ⟨rfl, k + 1, ?_, ⟨hlk, any_take_succ hs1 hkall hc2⟩, by omega⟩
                refine weak_of [] ?_ ?_ rfl rfl <;> simp [lessT, lessM, lessB, AV.less]
            · have he : k = x.opens.length := by (have : ¬ k < x.opens.length := by simpa using hb); omega
              subst he
              rw [List.take_length] at hkall
              repeat (first | refine walkL_seq ?_ | refine walkL_skip ?_ | refine walkL_block ?_ | (refine walkL_region fun K hK => ?_; simp (maxSteps := 4000000) only [go_sem, hw]; refine hK _ ?_; clear hK K) | refine walkL_nil ?_ | refine walkL_ret ?_ | refine walkL_exit ?_ | refine blockA_here ?_ | refine blockA_other rfl ?_ | refine blockA_ret ?_ | refine blockA_normal ?_ | refine thenA_ret ?_ | refine thenA_exit ?_ | refine thenA_normal ?_)
              refine ⟨rfl, i + 1, ?_, ⟨hlt, any_take_succ hx hall (by unfold wrongB; rw [hc1, hkall]; rfl)⟩, by omega⟩
              refine weak_of [] ?_ ?_ rfl rfl <;> simp [lessT, lessM, lessB, AV.less]
      · have he : i = n.paths.length := by (have : ¬ i < n.paths.length := by simpa using hb); omega
        subst he
        rw [List.take_length] at hall
        repeat (first | refine walkL_seq ?_ | refine walkL_skip ?_ | refine walkL_block ?_ | (refine walkL_region fun K hK => ?_; simp (maxSteps := 4000000) only [go_sem]; refine hK _ ?_; clear hK K) | refine walkL_nil ?_ | refine walkL_ret ?_ | refine walkL_exit ?_ | refine blockA_here ?_ | refine blockA_other rfl ?_ | refine blockA_ret ?_ | refine blockA_normal ?_ | refine thenA_ret ?_ | refine thenA_exit ?_ | refine thenA_normal ?_)
        have hb : badNet n = false := by rw [hbad, hall]
        simp (maxSteps := 4000000) only [go_sem, checkF, hb]
end Go.Ab
namespace Go.Ab
open Go.RowKit Go.Proofs
set_option maxHeartbeats 4000000
attribute [local irreducible] WalkL Walk

def badParty (p : Party) : Bool := !withinB p.grade 1 6 || (!orderedB p.pace 50 300 || !withinB p.load 0 40)
def checkPartyF (n : Net) (p : Party) : Int := if badNet n then 10 else if badParty p then 11 else 0

theorem f56 (n : Net) (p : Party) (hs : n.Small) : Fn Try.prog 56 [.agg n.cells, .agg p.cells] (.i (checkPartyF n p)) := by
  refine fn_walk 27 Try.call56 Try.func56 rfl (by decide) fun J => ?_
  simp (maxSteps := 4000000) only [go_sem, St.start, Try.ntmps56, Try.results56, Net.cells, Party.cells]
  repeat (first | refine walkL_seq ?_ | refine walkL_skip ?_ | refine walkL_block ?_ | (refine walkL_region fun K hK => ?_; simp (maxSteps := 4000000) only [go_sem]; (repeat (first | (refine ⟨_, .lent (hf := f27 n hs) (hd := rfl) (hr := rfl), ?_⟩; simp (maxSteps := 4000000) only [go_sem]) | (refine ⟨_, .given (hf := f27 n hs) (hd := rfl) (ha := rfl), ?_⟩; simp (maxSteps := 4000000) only [go_sem]))); refine hK _ ?_; clear hK K) | refine walkL_nil ?_ | refine walkL_ret ?_ | refine walkL_exit ?_ | refine blockA_here ?_ | refine blockA_other rfl ?_ | refine blockA_ret ?_ | refine blockA_normal ?_ | refine thenA_ret ?_ | refine thenA_exit ?_ | refine thenA_normal ?_)
  by_cases hb : badNet n = true
  · try simp (maxSteps := 4000000) only [go_sem, checkF, hb]
    refine walkL_true rfl ?_
    repeat (first | refine walkL_seq ?_ | refine walkL_skip ?_ | refine walkL_block ?_ | (refine walkL_region fun K hK => ?_; simp (maxSteps := 4000000) only [go_sem]; refine hK _ ?_; clear hK K) | refine walkL_nil ?_ | refine walkL_ret ?_ | refine walkL_exit ?_ | refine blockA_here ?_ | refine blockA_other rfl ?_ | refine blockA_ret ?_ | refine blockA_normal ?_ | refine thenA_ret ?_ | refine thenA_exit ?_ | refine thenA_normal ?_)
    simp (maxSteps := 4000000) only [go_sem, checkPartyF, hb]
  · try simp (maxSteps := 4000000) only [go_sem, checkF, hb]
    refine walkL_false rfl ?_
    repeat (first | refine walkL_seq ?_ | refine walkL_skip ?_ | refine walkL_block ?_ | (refine walkL_region fun K hK => ?_; simp (maxSteps := 4000000) only [go_sem]; refine hK _ ?_; clear hK K) | refine walkL_nil ?_ | refine walkL_ret ?_ | refine walkL_exit ?_ | refine blockA_here ?_ | refine blockA_other rfl ?_ | refine blockA_ret ?_ | refine blockA_normal ?_ | refine thenA_ret ?_ | refine thenA_exit ?_ | refine thenA_normal ?_)
    refine walkL_meetS [(26, .d (.bool (badParty p)))] [] ?_ ?_
    · refine walkL_region fun K hK => ?_
      simp (maxSteps := 4000000) only [go_sem]
      refine ⟨_, .lent (hf := f71 p.grade 1 6) (hd := rfl) (hr := rfl), ?_⟩
      simp (maxSteps := 4000000) only [go_sem]
      by_cases ho0 : (!withinB p.grade 1 6) = true
      · simp (maxSteps := 4000000) only [go_sem, ho0]
        refine hK _ ?_
        clear hK K
        refine walkL_nil ?_
        refine thenA_normal ?_
        refine ⟨rfl, ?_⟩
        rw [show (badParty p) = (true) from by simp [badParty, ho0]]
        simp (maxSteps := 4000000) only [go_sem]
        refine weak_of [] ?_ ?_ rfl rfl <;> simp [lessT, lessM, lessB, AV.less]
      · simp (maxSteps := 4000000) only [go_sem, ho0]
        refine ⟨_, .lent (hf := f72 p.pace 50 300) (hd := rfl) (hr := rfl), ?_⟩
        simp (maxSteps := 4000000) only [go_sem, ho0]
        by_cases ho1 : (!orderedB p.pace 50 300) = true
        · simp (maxSteps := 4000000) only [go_sem, ho0, ho1]
          refine hK _ ?_
          clear hK K
          refine walkL_nil ?_
          refine thenA_normal ?_
          refine ⟨rfl, ?_⟩
          rw [show (badParty p) = (true) from by simp [badParty, ho0, ho1]]
          simp (maxSteps := 4000000) only [go_sem]
          refine weak_of [] ?_ ?_ rfl rfl <;> simp [lessT, lessM, lessB, AV.less]
        · simp (maxSteps := 4000000) only [go_sem, ho0, ho1]
          refine ⟨_, .lent (hf := f71 p.load 0 40) (hd := rfl) (hr := rfl), ?_⟩
          simp (maxSteps := 4000000) only [go_sem, ho0, ho1]
          refine hK _ ?_
          clear hK K
          refine walkL_nil ?_
          refine thenA_normal ?_
          refine ⟨rfl, ?_⟩
          rw [show (badParty p) = (!withinB p.load 0 40) from by simp [badParty, ho0, ho1]]
          simp (maxSteps := 4000000) only [go_sem]
          refine weak_of [] ?_ ?_ rfl rfl <;> simp [lessT, lessM, lessB, AV.less]
    simp (maxSteps := 4000000) only [go_sem]
    refine walkL_cond rfl (fun hc => ?_) (fun hc => ?_)
    · repeat (first | refine walkL_seq ?_ | refine walkL_skip ?_ | refine walkL_block ?_ | (refine walkL_region fun K hK => ?_; simp (maxSteps := 4000000) only [go_sem]; refine hK _ ?_; clear hK K) | refine walkL_nil ?_ | refine walkL_ret ?_ | refine walkL_exit ?_ | refine blockA_here ?_ | refine blockA_other rfl ?_ | refine blockA_ret ?_ | refine blockA_normal ?_ | refine thenA_ret ?_ | refine thenA_exit ?_ | refine thenA_normal ?_)
      simp (maxSteps := 4000000) only [go_sem, checkPartyF, hb, hc]
    · repeat (first | refine walkL_seq ?_ | refine walkL_skip ?_ | refine walkL_block ?_ | (refine walkL_region fun K hK => ?_; simp (maxSteps := 4000000) only [go_sem]; refine hK _ ?_; clear hK K) | refine walkL_nil ?_ | refine walkL_ret ?_ | refine walkL_exit ?_ | refine blockA_here ?_ | refine blockA_other rfl ?_ | refine blockA_ret ?_ | refine blockA_normal ?_ | refine thenA_ret ?_ | refine thenA_exit ?_ | refine thenA_normal ?_)
      simp (maxSteps := 4000000) only [go_sem, checkPartyF, hb, hc]

theorem f73 (n : Net) (p : Party) (hs : n.Small) : Fn Try.prog 73 [.agg n.cells, .agg p.cells] (.tup [.agg (walkCells n p), .i (checkPartyF n p)]) := by
  refine fn_walk 35 Try.call73 Try.func73 rfl (by decide) fun J => ?_
  simp (maxSteps := 4000000) only [go_sem, St.start, Try.ntmps73, Try.results73, Net.cells, Party.cells, walkCells]
  repeat (first | refine walkL_seq ?_ | refine walkL_skip ?_ | refine walkL_block ?_ | (refine walkL_region fun K hK => ?_; simp (maxSteps := 4000000) only [go_sem]; (repeat (first | (refine ⟨_, .lent (hf := f26 n hs) (hd := rfl) (hr := rfl), ?_⟩; simp (maxSteps := 4000000) only [go_sem]) | (refine ⟨_, .given (hf := f26 n hs) (hd := rfl) (ha := rfl), ?_⟩; simp (maxSteps := 4000000) only [go_sem]))); refine hK _ ?_; clear hK K) | refine walkL_nil ?_ | refine walkL_ret ?_ | refine walkL_exit ?_ | refine blockA_here ?_ | refine blockA_other rfl ?_ | refine blockA_ret ?_ | refine blockA_normal ?_ | refine thenA_ret ?_ | refine thenA_exit ?_ | refine thenA_normal ?_)
  by_cases hb : badNet n = true
  · try simp (maxSteps := 4000000) only [go_sem, checkF, hb]
    refine walkL_true rfl ?_
    repeat (first | refine walkL_seq ?_ | refine walkL_skip ?_ | refine walkL_block ?_ | (refine walkL_region fun K hK => ?_; simp (maxSteps := 4000000) only [go_sem]; refine hK _ ?_; clear hK K) | refine walkL_nil ?_ | refine walkL_ret ?_ | refine walkL_exit ?_ | refine blockA_here ?_ | refine blockA_other rfl ?_ | refine blockA_ret ?_ | refine blockA_normal ?_ | refine thenA_ret ?_ | refine thenA_exit ?_ | refine thenA_normal ?_)
    simp (maxSteps := 4000000) only [go_sem, checkPartyF, hb, walkCells]
  · try simp (maxSteps := 4000000) only [go_sem, checkF, hb]
    refine walkL_false rfl ?_
    repeat (first | refine walkL_seq ?_ | refine walkL_skip ?_ | refine walkL_block ?_ | (refine walkL_region fun K hK => ?_; simp (maxSteps := 4000000) only [go_sem]; refine hK _ ?_; clear hK K) | refine walkL_nil ?_ | refine walkL_ret ?_ | refine walkL_exit ?_ | refine blockA_here ?_ | refine blockA_other rfl ?_ | refine blockA_ret ?_ | refine blockA_normal ?_ | refine thenA_ret ?_ | refine thenA_exit ?_ | refine thenA_normal ?_)
    refine walkL_meetS [(32, .d (.bool (badParty p)))] [] ?_ ?_
    · refine walkL_region fun K hK => ?_
      simp (maxSteps := 4000000) only [go_sem]
      refine ⟨_, .lent (hf := f65 p.grade 1 6) (hd := rfl) (hr := rfl), ?_⟩
      simp (maxSteps := 4000000) only [go_sem]
      by_cases ho0 : (!withinB p.grade 1 6) = true
      · simp (maxSteps := 4000000) only [go_sem, ho0]
        refine hK _ ?_
        clear hK K
        refine walkL_nil ?_
        refine thenA_normal ?_
        refine ⟨rfl, ?_⟩
        rw [show (badParty p) = (true) from by simp [badParty, ho0]]
        simp (maxSteps := 4000000) only [go_sem]
        refine weak_of [] ?_ ?_ rfl rfl <;> simp [lessT, lessM, lessB, AV.less]
      · simp (maxSteps := 4000000) only [go_sem, ho0]
        refine ⟨_, .lent (hf := f67 p.pace 50 300) (hd := rfl) (hr := rfl), ?_⟩
        simp (maxSteps := 4000000) only [go_sem, ho0]
        by_cases ho1 : (!orderedB p.pace 50 300) = true
        · simp (maxSteps := 4000000) only [go_sem, ho0, ho1]
          refine hK _ ?_
          clear hK K
          refine walkL_nil ?_
          refine thenA_normal ?_
          refine ⟨rfl, ?_⟩
          rw [show (badParty p) = (true) from by simp [badParty, ho0, ho1]]
          simp (maxSteps := 4000000) only [go_sem]
          refine weak_of [] ?_ ?_ rfl rfl <;> simp [lessT, lessM, lessB, AV.less]
        · simp (maxSteps := 4000000) only [go_sem, ho0, ho1]
          refine ⟨_, .lent (hf := f65 p.load 0 40) (hd := rfl) (hr := rfl), ?_⟩
          simp (maxSteps := 4000000) only [go_sem, ho0, ho1]
          refine hK _ ?_
          clear hK K
          refine walkL_nil ?_
          refine thenA_normal ?_
          refine ⟨rfl, ?_⟩
          rw [show (badParty p) = (!withinB p.load 0 40) from by simp [badParty, ho0, ho1]]
          simp (maxSteps := 4000000) only [go_sem]
          refine weak_of [] ?_ ?_ rfl rfl <;> simp [lessT, lessM, lessB, AV.less]
    simp (maxSteps := 4000000) only [go_sem]
    refine walkL_cond rfl (fun hc => ?_) (fun hc => ?_)
    · repeat (first | refine walkL_seq ?_ | refine walkL_skip ?_ | refine walkL_block ?_ | (refine walkL_region fun K hK => ?_; simp (maxSteps := 4000000) only [go_sem]; refine hK _ ?_; clear hK K) | refine walkL_nil ?_ | refine walkL_ret ?_ | refine walkL_exit ?_ | refine blockA_here ?_ | refine blockA_other rfl ?_ | refine blockA_ret ?_ | refine blockA_normal ?_ | refine thenA_ret ?_ | refine thenA_exit ?_ | refine thenA_normal ?_)
      simp (maxSteps := 4000000) only [go_sem, checkPartyF, hb, hc, walkCells]
    · repeat (first | refine walkL_seq ?_ | refine walkL_skip ?_ | refine walkL_block ?_ | (refine walkL_region fun K hK => ?_; simp (maxSteps := 4000000) only [go_sem]; refine hK _ ?_; clear hK K) | refine walkL_nil ?_ | refine walkL_ret ?_ | refine walkL_exit ?_ | refine blockA_here ?_ | refine blockA_other rfl ?_ | refine blockA_ret ?_ | refine blockA_normal ?_ | refine thenA_ret ?_ | refine thenA_exit ?_ | refine thenA_normal ?_)
      simp (maxSteps := 4000000) only [go_sem, checkPartyF, hb, hc, walkCells]

theorem f84 (n : Net) (x : Int) (hn : 0 ≤ n.places ∧ n.places < 2 ^ 62) : Fn Try.prog 84 [.i x, .ptr n.cells 0] (.bool (!withinB x 0 (n.places - 1))) := by
  refine fn_walk 10 Try.call84 Try.func84 rfl (by decide) fun J => ?_
  simp (maxSteps := 4000000) only [go_sem, St.start, Try.ntmps84, Try.results84, Net.cells]
  have hw : IntKind.i64.wrap (n.places - 1) = n.places - 1 := wr_small (by omega)
  repeat (first | refine walkL_seq ?_ | refine walkL_skip ?_ | refine walkL_block ?_ | (refine walkL_region fun K hK => ?_; simp (maxSteps := 4000000) only [go_sem, hw]; (repeat (first | (refine ⟨_, .lent (hf := f65 _ _ _) (hd := rfl) (hr := rfl), ?_⟩; simp (maxSteps := 4000000) only [go_sem, hw]) | (refine ⟨_, .given (hf := f65 _ _ _) (hd := rfl) (ha := rfl), ?_⟩; simp (maxSteps := 4000000) only [go_sem, hw]))); refine hK _ ?_; clear hK K) | refine walkL_nil ?_ | refine walkL_ret ?_ | refine walkL_exit ?_ | refine blockA_here ?_ | refine blockA_other rfl ?_ | refine blockA_ret ?_ | refine blockA_normal ?_ | refine thenA_ret ?_ | refine thenA_exit ?_ | refine thenA_normal ?_)
  simp (maxSteps := 4000000) only [go_sem]

theorem f85 (x : Int) : Fn Try.prog 85 [.i x] (.bool (!withinB x 0 2880)) := by
  refine fn_walk 6 Try.call85 Try.func85 rfl (by decide) fun J => ?_
  simp (maxSteps := 4000000) only [go_sem, St.start, Try.ntmps85, Try.results85]
  repeat (first | refine walkL_seq ?_ | refine walkL_skip ?_ | refine walkL_block ?_ | (refine walkL_region fun K hK => ?_; simp (maxSteps := 4000000) only [go_sem]; (repeat (first | (refine ⟨_, .lent (hf := f65 _ _ _) (hd := rfl) (hr := rfl), ?_⟩; simp (maxSteps := 4000000) only [go_sem]) | (refine ⟨_, .given (hf := f65 _ _ _) (hd := rfl) (ha := rfl), ?_⟩; simp (maxSteps := 4000000) only [go_sem]))); refine hK _ ?_; clear hK K) | refine walkL_nil ?_ | refine walkL_ret ?_ | refine walkL_exit ?_ | refine blockA_here ?_ | refine blockA_other rfl ?_ | refine blockA_ret ?_ | refine blockA_normal ?_ | refine thenA_ret ?_ | refine thenA_exit ?_ | refine thenA_normal ?_)
  simp (maxSteps := 4000000) only [go_sem]

def badAsk (n : Net) (places minutes : List Int) : Bool := places.any (fun x => !withinB x 0 (n.places - 1)) || minutes.any (fun x => !withinB x 0 2880)
def openF (n : Net) (p : Party) (places minutes : List Int) : Int := if badNet n then 10 else if badParty p then 11 else if badAsk n places minutes then 1 else 0

theorem good_places {n : Net} (h : ¬ badNet n = true) : 1 ≤ n.places ∧ n.places ≤ 12 := by
  have : badNet n = false := by simpa using h
  unfold badNet at this
  rw [Bool.or_eq_false_iff] at this
  exact within_iff.1 (by simpa using this.1)

theorem f41 (n : Net) (p : Party) (places minutes : List Int) (hs : n.Small) (h1 : places.length < 2 ^ 62) (h2 : minutes.length < 2 ^ 62) :
    Fn Try.prog 41 [.agg n.cells, .agg p.cells, .agg [.sl (intRows places), .sl (intRows minutes)]] (.tup [.agg (walkCells n p), .i (openF n p places minutes)]) := by
  refine fn_walk 31 Try.call41 Try.func41 rfl (by decide) fun J => ?_
  simp (maxSteps := 4000000) only [go_sem, St.start, Try.ntmps41, Try.results41, Net.cells, Party.cells]
  have h73 := f73 n p hs
  by_cases hb : badNet n = true
  · repeat (first | refine walkL_seq ?_ | refine walkL_skip ?_ | refine walkL_block ?_ | (refine walkL_region fun K hK => ?_; simp (maxSteps := 4000000) only [go_sem, checkPartyF, hb, walkCells]; (repeat (first | (refine ⟨_, .lent (hf := h73) (hd := rfl) (hr := rfl), ?_⟩; simp (maxSteps := 4000000) only [go_sem, checkPartyF, hb, walkCells]) | (refine ⟨_, .given (hf := h73) (hd := rfl) (ha := rfl), ?_⟩; simp (maxSteps := 4000000) only [go_sem, checkPartyF, hb, walkCells]))); refine hK _ ?_; clear hK K) | refine walkL_nil ?_ | refine walkL_ret ?_ | refine walkL_exit ?_ | refine blockA_here ?_ | refine blockA_other rfl ?_ | refine blockA_ret ?_ | refine blockA_normal ?_ | refine thenA_ret ?_ | refine thenA_exit ?_ | refine thenA_normal ?_)
    try simp (maxSteps := 4000000) only [go_sem, checkPartyF, hb]
    refine walkL_true rfl ?_
    repeat (first | refine walkL_seq ?_ | refine walkL_skip ?_ | refine walkL_block ?_ | (refine walkL_region fun K hK => ?_; simp (maxSteps := 4000000) only [go_sem, walkCells]; refine hK _ ?_; clear hK K) | refine walkL_nil ?_ | refine walkL_ret ?_ | refine walkL_exit ?_ | refine blockA_here ?_ | refine blockA_other rfl ?_ | refine blockA_ret ?_ | refine blockA_normal ?_ | refine thenA_ret ?_ | refine thenA_exit ?_ | refine thenA_normal ?_)
    simp (maxSteps := 4000000) only [go_sem, openF, hb, walkCells]
  · by_cases hp : badParty p = true
    · repeat (first | refine walkL_seq ?_ | refine walkL_skip ?_ | refine walkL_block ?_ | (refine walkL_region fun K hK => ?_; simp (maxSteps := 4000000) only [go_sem, checkPartyF, hb, hp, walkCells]; (repeat (first | (refine ⟨_, .lent (hf := h73) (hd := rfl) (hr := rfl), ?_⟩; simp (maxSteps := 4000000) only [go_sem, checkPartyF, hb, hp, walkCells]) | (refine ⟨_, .given (hf := h73) (hd := rfl) (ha := rfl), ?_⟩; simp (maxSteps := 4000000) only [go_sem, checkPartyF, hb, hp, walkCells]))); refine hK _ ?_; clear hK K) | refine walkL_nil ?_ | refine walkL_ret ?_ | refine walkL_exit ?_ | refine blockA_here ?_ | refine blockA_other rfl ?_ | refine blockA_ret ?_ | refine blockA_normal ?_ | refine thenA_ret ?_ | refine thenA_exit ?_ | refine thenA_normal ?_)
      try simp (maxSteps := 4000000) only [go_sem, checkPartyF, hb, hp]
      refine walkL_true rfl ?_
      repeat (first | refine walkL_seq ?_ | refine walkL_skip ?_ | refine walkL_block ?_ | (refine walkL_region fun K hK => ?_; simp (maxSteps := 4000000) only [go_sem, walkCells]; refine hK _ ?_; clear hK K) | refine walkL_nil ?_ | refine walkL_ret ?_ | refine walkL_exit ?_ | refine blockA_here ?_ | refine blockA_other rfl ?_ | refine blockA_ret ?_ | refine blockA_normal ?_ | refine thenA_ret ?_ | refine thenA_exit ?_ | refine thenA_normal ?_)
      simp (maxSteps := 4000000) only [go_sem, openF, hb, hp, walkCells]
    · have hg := good_places hb
      have h84 := fun x (_ : x ∈ places) => f84 n x (by omega)
      have h85 := fun x (_ : x ∈ minutes) => f85 x
      repeat (first | refine walkL_seq ?_ | refine walkL_skip ?_ | refine walkL_block ?_ | (refine walkL_region fun K hK => ?_; simp (maxSteps := 4000000) only [go_sem, checkPartyF, hb, hp, walkCells]; (repeat (first | (refine ⟨_, .lent (hf := h73) (hd := rfl) (hr := rfl), ?_⟩; simp (maxSteps := 4000000) only [go_sem, checkPartyF, hb, hp, walkCells]) | (refine ⟨_, .given (hf := h73) (hd := rfl) (ha := rfl), ?_⟩; simp (maxSteps := 4000000) only [go_sem, checkPartyF, hb, hp, walkCells]))); refine hK _ ?_; clear hK K) | refine walkL_nil ?_ | refine walkL_ret ?_ | refine walkL_exit ?_ | refine blockA_here ?_ | refine blockA_other rfl ?_ | refine blockA_ret ?_ | refine blockA_normal ?_ | refine thenA_ret ?_ | refine thenA_exit ?_ | refine thenA_normal ?_)
      try simp (maxSteps := 4000000) only [go_sem, checkPartyF, hb, hp, walkCells]
      refine walkL_false rfl ?_
      repeat (first | refine walkL_seq ?_ | refine walkL_skip ?_ | refine walkL_block ?_ | (refine walkL_region fun K hK => ?_; simp (maxSteps := 4000000) only [go_sem]; refine hK _ ?_; clear hK K) | refine walkL_nil ?_ | refine walkL_ret ?_ | refine walkL_exit ?_ | refine blockA_here ?_ | refine blockA_other rfl ?_ | refine blockA_ret ?_ | refine blockA_normal ?_ | refine thenA_ret ?_ | refine thenA_exit ?_ | refine thenA_normal ?_)
      refine walkL_meetS [(28, .d (.bool (badAsk n places minutes)))] [] ?_ ?_
      · refine walkL_region fun K hK => ?_
        simp (maxSteps := 4000000) only [go_sem]
        refine ⟨_, .lent (hf := f83 places 84 [.ptr n.cells 0] _ h84 h1) (hd := rfl) (hr := rfl), ?_⟩
        simp (maxSteps := 4000000) only [go_sem]
        by_cases ho0 : (places.any (fun x => !withinB x 0 (n.places - 1))) = true
        · simp (maxSteps := 4000000) only [go_sem, ho0]
          refine hK _ ?_
          clear hK K
          refine walkL_nil ?_
          refine thenA_normal ?_
          refine ⟨rfl, ?_⟩
          rw [show (badAsk n places minutes) = (true) from by simp [badAsk, ho0]]
          simp (maxSteps := 4000000) only [go_sem]
          refine weak_of [] ?_ ?_ rfl rfl <;> simp [lessT, lessM, lessB, AV.less]
        · simp (maxSteps := 4000000) only [go_sem, ho0]
          refine ⟨_, .lent (hf := f83 minutes 85 [] _ h85 h2) (hd := rfl) (hr := rfl), ?_⟩
          simp (maxSteps := 4000000) only [go_sem, ho0]
          refine hK _ ?_
          clear hK K
          refine walkL_nil ?_
          refine thenA_normal ?_
          refine ⟨rfl, ?_⟩
          rw [show (badAsk n places minutes) = (minutes.any (fun x => !withinB x 0 2880)) from by simp [badAsk, ho0]]
          simp (maxSteps := 4000000) only [go_sem]
          refine weak_of [] ?_ ?_ rfl rfl <;> simp [lessT, lessM, lessB, AV.less]
      simp (maxSteps := 4000000) only [go_sem]
      refine walkL_cond rfl (fun hc => ?_) (fun hc => ?_)
      · repeat (first | refine walkL_seq ?_ | refine walkL_skip ?_ | refine walkL_block ?_ | (refine walkL_region fun K hK => ?_; simp (maxSteps := 4000000) only [go_sem]; refine hK _ ?_; clear hK K) | refine walkL_nil ?_ | refine walkL_ret ?_ | refine walkL_exit ?_ | refine blockA_here ?_ | refine blockA_other rfl ?_ | refine blockA_ret ?_ | refine blockA_normal ?_ | refine thenA_ret ?_ | refine thenA_exit ?_ | refine thenA_normal ?_)
        simp (maxSteps := 4000000) only [go_sem, openF, hb, hp, hc, walkCells]
      · repeat (first | refine walkL_seq ?_ | refine walkL_skip ?_ | refine walkL_block ?_ | (refine walkL_region fun K hK => ?_; simp (maxSteps := 4000000) only [go_sem]; refine hK _ ?_; clear hK K) | refine walkL_nil ?_ | refine walkL_ret ?_ | refine walkL_exit ?_ | refine blockA_here ?_ | refine blockA_other rfl ?_ | refine blockA_ret ?_ | refine blockA_normal ?_ | refine thenA_ret ?_ | refine thenA_exit ?_ | refine thenA_normal ?_)
        simp (maxSteps := 4000000) only [go_sem, openF, hb, hp, hc, walkCells]

theorem intRows_at {l : List Int} {i : Nat} {x : Int} (h : l[i]? = some x) : (intRows l)[i]? = some [.i x] := by simp [intRows, h]

theorem f52 (n : Net) (p : Party) (places minutes : List Int) (hs : n.Small) (h1 : places.length < 2 ^ 62) (h2 : minutes.length < 2 ^ 62) :
    Fn Try.prog 52 [.agg n.cells, .agg p.cells, .sl (intRows places), .sl (intRows minutes)] (.i (openF n p places minutes)) := by
  refine fn_walk 43 Try.call52 Try.func52 rfl (by decide) fun J => ?_
  simp (maxSteps := 4000000) only [go_sem, St.start, Try.ntmps52, Try.results52, Net.cells, Party.cells]
  have h56 := f56 n p hs
  by_cases hbad : badNet n = true
  · repeat (first | refine walkL_seq ?_ | refine walkL_skip ?_ | refine walkL_block ?_ | (refine walkL_region fun K hK => ?_; simp (maxSteps := 4000000) only [go_sem, checkPartyF, hbad]; (repeat (first | (refine ⟨_, .lent (hf := h56) (hd := rfl) (hr := rfl), ?_⟩; simp (maxSteps := 4000000) only [go_sem, checkPartyF, hbad]) | (refine ⟨_, .given (hf := h56) (hd := rfl) (ha := rfl), ?_⟩; simp (maxSteps := 4000000) only [go_sem, checkPartyF, hbad]))); refine hK _ ?_; clear hK K) | refine walkL_nil ?_ | refine walkL_ret ?_ | refine walkL_exit ?_ | refine blockA_here ?_ | refine blockA_other rfl ?_ | refine blockA_ret ?_ | refine blockA_normal ?_ | refine thenA_ret ?_ | refine thenA_exit ?_ | refine thenA_normal ?_)
    try simp (maxSteps := 4000000) only [go_sem, checkPartyF, hbad]
    refine walkL_true rfl ?_
    repeat (first | refine walkL_seq ?_ | refine walkL_skip ?_ | refine walkL_block ?_ | (refine walkL_region fun K hK => ?_; simp (maxSteps := 4000000) only [go_sem]; refine hK _ ?_; clear hK K) | refine walkL_nil ?_ | refine walkL_ret ?_ | refine walkL_exit ?_ | refine blockA_here ?_ | refine blockA_other rfl ?_ | refine blockA_ret ?_ | refine blockA_normal ?_ | refine thenA_ret ?_ | refine thenA_exit ?_ | refine thenA_normal ?_)
    simp (maxSteps := 4000000) only [go_sem, openF, hbad]
  by_cases hp : badParty p = true
  · repeat (first | refine walkL_seq ?_ | refine walkL_skip ?_ | refine walkL_block ?_ | (refine walkL_region fun K hK => ?_; simp (maxSteps := 4000000) only [go_sem, checkPartyF, hbad, hp]; (repeat (first | (refine ⟨_, .lent (hf := h56) (hd := rfl) (hr := rfl), ?_⟩; simp (maxSteps := 4000000) only [go_sem, checkPartyF, hbad, hp]) | (refine ⟨_, .given (hf := h56) (hd := rfl) (ha := rfl), ?_⟩; simp (maxSteps := 4000000) only [go_sem, checkPartyF, hbad, hp]))); refine hK _ ?_; clear hK K) | refine walkL_nil ?_ | refine walkL_ret ?_ | refine walkL_exit ?_ | refine blockA_here ?_ | refine blockA_other rfl ?_ | refine blockA_ret ?_ | refine blockA_normal ?_ | refine thenA_ret ?_ | refine thenA_exit ?_ | refine thenA_normal ?_)
    try simp (maxSteps := 4000000) only [go_sem, checkPartyF, hbad, hp]
    refine walkL_true rfl ?_
    repeat (first | refine walkL_seq ?_ | refine walkL_skip ?_ | refine walkL_block ?_ | (refine walkL_region fun K hK => ?_; simp (maxSteps := 4000000) only [go_sem]; refine hK _ ?_; clear hK K) | refine walkL_nil ?_ | refine walkL_ret ?_ | refine walkL_exit ?_ | refine blockA_here ?_ | refine blockA_other rfl ?_ | refine blockA_ret ?_ | refine blockA_normal ?_ | refine thenA_ret ?_ | refine thenA_exit ?_ | refine thenA_normal ?_)
    simp (maxSteps := 4000000) only [go_sem, openF, hbad, hp]
  have hg := good_places hbad
  repeat (first | refine walkL_seq ?_ | refine walkL_skip ?_ | refine walkL_block ?_ | (refine walkL_region fun K hK => ?_; simp (maxSteps := 4000000) only [go_sem, checkPartyF, hbad, hp]; (repeat (first | (refine ⟨_, .lent (hf := h56) (hd := rfl) (hr := rfl), ?_⟩; simp (maxSteps := 4000000) only [go_sem, checkPartyF, hbad, hp]) | (refine ⟨_, .given (hf := h56) (hd := rfl) (ha := rfl), ?_⟩; simp (maxSteps := 4000000) only [go_sem, checkPartyF, hbad, hp]))); refine hK _ ?_; clear hK K) | refine walkL_nil ?_ | refine walkL_ret ?_ | refine walkL_exit ?_ | refine blockA_here ?_ | refine blockA_other rfl ?_ | refine blockA_ret ?_ | refine blockA_normal ?_ | refine thenA_ret ?_ | refine thenA_exit ?_ | refine thenA_normal ?_)
  try simp (maxSteps := 4000000) only [go_sem, checkPartyF, hbad, hp]
  refine walkL_false rfl ?_
  repeat (first | refine walkL_seq ?_ | refine walkL_skip ?_ | refine walkL_block ?_ | (refine walkL_region fun K hK => ?_; simp (maxSteps := 4000000) only [go_sem]; refine hK _ ?_; clear hK K) | refine walkL_nil ?_ | refine walkL_ret ?_ | refine walkL_exit ?_ | refine blockA_here ?_ | refine blockA_other rfl ?_ | refine blockA_ret ?_ | refine blockA_normal ?_ | refine thenA_ret ?_ | refine thenA_exit ?_ | refine thenA_normal ?_)
  refine walkL_loopS (fun (i : Nat) => [(10, .d (.i i))]) (fun _ => []) (fun i => i ≤ places.length ∧ (places.take i).any (fun x => !withinB x 0 (n.places - 1)) = false) (fun i => places.length - i) 0 ?_ ⟨Nat.zero_le _, rfl⟩ ?_
  · simp (maxSteps := 4000000) only [go_sem]
    refine weak_of [] ?_ ?_ rfl rfl <;> simp [lessT, lessM, lessB, AV.less]
  · intro i ⟨hi, hall⟩
    simp (maxSteps := 4000000) only [go_sem]
    repeat (first | refine walkL_seq ?_ | refine walkL_skip ?_ | refine walkL_block ?_ | (refine walkL_region fun K hK => ?_; simp (maxSteps := 4000000) only [go_sem, intRows_len]; refine hK _ ?_; clear hK K) | refine walkL_nil ?_ | refine walkL_ret ?_ | refine walkL_exit ?_ | refine blockA_here ?_ | refine blockA_other rfl ?_ | refine blockA_ret ?_ | refine blockA_normal ?_ | refine thenA_ret ?_ | refine thenA_exit ?_ | refine thenA_normal ?_)
    refine walkL_cond rfl (fun hb => ?_) (fun hb => ?_)
    · have hlt : i < places.length := by simpa using hb
      have hw : IntKind.i64.wrap ((i : Int) + 1) = ((i + 1 : Nat) : Int) := by rw [wr_small (by omega)]; simp
      obtain ⟨x, hx⟩ : ∃ x, places[i]? = some x := ⟨_, List.getElem?_eq_getElem hlt⟩
      have h57 := f57 n x (by omega)
      have g1 := intRows_at hx
      repeat (first | refine walkL_seq ?_ | refine walkL_skip ?_ | refine walkL_block ?_ | (refine walkL_region fun K hK => ?_; simp (maxSteps := 4000000) only [go_sem]; refine hK _ ?_; clear hK K) | refine walkL_nil ?_ | refine walkL_ret ?_ | refine walkL_exit ?_ | refine blockA_here ?_ | refine blockA_other rfl ?_ | refine blockA_ret ?_ | refine blockA_normal ?_ | refine thenA_ret ?_ | refine thenA_exit ?_ | refine thenA_normal ?_)
      refine walkL_drawn (by kernel_rfl) (by kernel_rfl) fun K hK => ?_
      simp (maxSteps := 4000000) only [go_sem, g1]
      refine ⟨_, .fn (hf := h57) (hd := rfl) (hr := .inl rfl), ?_⟩
      simp (maxSteps := 4000000) only [go_sem]
      refine ⟨by kernel_rfl, hK _ ?_⟩
      clear hK K
      refine walkL_cond rfl (fun hc => ?_) (fun hc => ?_)
      · repeat (first | refine walkL_seq ?_ | refine walkL_skip ?_ | refine walkL_block ?_ | (refine walkL_region fun K hK => ?_; simp (maxSteps := 4000000) only [go_sem]; refine hK _ ?_; clear hK K) | refine walkL_nil ?_ | refine walkL_ret ?_ | refine walkL_exit ?_ | refine blockA_here ?_ | refine blockA_other rfl ?_ | refine blockA_ret ?_ | refine blockA_normal ?_ | refine thenA_ret ?_ | refine thenA_exit ?_ | refine thenA_normal ?_)
        have ha : badAsk n places minutes = true := by unfold badAsk; rw [any_of_get hx hc]; rfl
        simp (maxSteps := 4000000) only [go_sem, openF, hbad, hp, ha]
      · repeat (first | refine walkL_seq ?_ | refine walkL_skip ?_ | refine walkL_block ?_ | (refine walkL_region fun K hK => ?_; simp (maxSteps := 4000000) only [go_sem, hw]; refine hK _ ?_; clear hK K) | refine walkL_nil ?_ | refine walkL_ret ?_ | refine walkL_exit ?_ | refine blockA_here ?_ | refine blockA_other rfl ?_ | refine blockA_ret ?_ | refine blockA_normal ?_ | refine thenA_ret ?_ | refine thenA_exit ?_ | refine thenA_normal ?_)
        refine ⟨rfl, i + 1, ?_, ⟨hlt, any_take_succ hx hall hc⟩, by omega⟩
        refine weak_of [] ?_ ?_ rfl rfl <;> simp [lessT, lessM, lessB, AV.less]
    · have he : i = places.length := by (have : ¬ i < places.length := by simpa using hb); omega
      subst he
      rw [List.take_length] at hall
      repeat (first | refine walkL_seq ?_ | refine walkL_skip ?_ | refine walkL_block ?_ | (refine walkL_region fun K hK => ?_; simp (maxSteps := 4000000) only [go_sem]; refine hK _ ?_; clear hK K) | refine walkL_nil ?_ | refine walkL_ret ?_ | refine walkL_exit ?_ | refine blockA_here ?_ | refine blockA_other rfl ?_ | refine blockA_ret ?_ | refine blockA_normal ?_ | refine thenA_ret ?_ | refine thenA_exit ?_ | refine thenA_normal ?_)
      refine walkL_loopS (fun (i : Nat) => [(11, .d (.i i))]) (fun _ => []) (fun i => i ≤ minutes.length ∧ (minutes.take i).any (fun x => !withinB x 0 2880) = false) (fun i => minutes.length - i) 0 ?_ ⟨Nat.zero_le _, rfl⟩ ?_
      · simp (maxSteps := 4000000) only [go_sem]
        refine weak_of [] ?_ ?_ rfl rfl <;> simp [lessT, lessM, lessB, AV.less]
      · intro i ⟨hi, hall2⟩
        simp (maxSteps := 4000000) only [go_sem]
        repeat (first | refine walkL_seq ?_ | refine walkL_skip ?_ | refine walkL_block ?_ | (refine walkL_region fun K hK => ?_; simp (maxSteps := 4000000) only [go_sem, intRows_len]; refine hK _ ?_; clear hK K) | refine walkL_nil ?_ | refine walkL_ret ?_ | refine walkL_exit ?_ | refine blockA_here ?_ | refine blockA_other rfl ?_ | refine blockA_ret ?_ | refine blockA_normal ?_ | refine thenA_ret ?_ | refine thenA_exit ?_ | refine thenA_normal ?_)
        refine walkL_cond rfl (fun hb => ?_) (fun hb => ?_)
        · have hlt : i < minutes.length := by simpa using hb
          have hw : IntKind.i64.wrap ((i : Int) + 1) = ((i + 1 : Nat) : Int) := by rw [wr_small (by omega)]; simp
          obtain ⟨x, hx⟩ : ∃ x, minutes[i]? = some x := ⟨_, List.getElem?_eq_getElem hlt⟩
          have g1 := intRows_at hx
          repeat (first | refine walkL_seq ?_ | refine walkL_skip ?_ | refine walkL_block ?_ | (refine walkL_region fun K hK => ?_; simp (maxSteps := 4000000) only [go_sem, g1]; (repeat (first | (refine ⟨_, .lent (hf := f58 x) (hd := rfl) (hr := rfl), ?_⟩; simp (maxSteps := 4000000) only [go_sem, g1]) | (refine ⟨_, .given (hf := f58 x) (hd := rfl) (ha := rfl), ?_⟩; simp (maxSteps := 4000000) only [go_sem, g1]))); refine hK _ ?_; clear hK K) | refine walkL_nil ?_ | refine walkL_ret ?_ | refine walkL_exit ?_ | refine blockA_here ?_ | refine blockA_other rfl ?_ | refine blockA_ret ?_ | refine blockA_normal ?_ | refine thenA_ret ?_ | refine thenA_exit ?_ | refine thenA_normal ?_)
          refine walkL_cond rfl (fun hc => ?_) (fun hc => ?_)
          · repeat (first | refine walkL_seq ?_ | refine walkL_skip ?_ | refine walkL_block ?_ | (refine walkL_region fun K hK => ?_; simp (maxSteps := 4000000) only [go_sem]; refine hK _ ?_; clear hK K) | refine walkL_nil ?_ | refine walkL_ret ?_ | refine walkL_exit ?_ | refine blockA_here ?_ | refine blockA_other rfl ?_ | refine blockA_ret ?_ | refine blockA_normal ?_ | refine thenA_ret ?_ | refine thenA_exit ?_ | refine thenA_normal ?_)
            have ha : badAsk n places minutes = true := by unfold badAsk; rw [any_of_get hx hc]; simp
            simp (maxSteps := 4000000) only [go_sem, openF, hbad, hp, ha]
          · repeat (first | refine walkL_seq ?_ | refine walkL_skip ?_ | refine walkL_block ?_ | (refine walkL_region fun K hK => ?_; simp (maxSteps := 4000000) only [go_sem, hw]; refine hK _ ?_; clear hK K) | refine walkL_nil ?_ | refine walkL_ret ?_ | refine walkL_exit ?_ | refine blockA_here ?_ | refine blockA_other rfl ?_ | refine blockA_ret ?_ | refine blockA_normal ?_ | refine thenA_ret ?_ | refine thenA_exit ?_ | refine thenA_normal ?_)
            refine ⟨rfl, i + 1, ?_, ⟨hlt, any_take_succ hx hall2 hc⟩, by omega⟩
            refine weak_of [] ?_ ?_ rfl rfl <;> simp [lessT, lessM, lessB, AV.less]
        · have he : i = minutes.length := by (have : ¬ i < minutes.length := by simpa using hb); omega
          subst he
          rw [List.take_length] at hall2
          repeat (first | refine walkL_seq ?_ | refine walkL_skip ?_ | refine walkL_block ?_ | (refine walkL_region fun K hK => ?_; simp (maxSteps := 4000000) only [go_sem]; refine hK _ ?_; clear hK K) | refine walkL_nil ?_ | refine walkL_ret ?_ | refine walkL_exit ?_ | refine blockA_here ?_ | refine blockA_other rfl ?_ | refine blockA_ret ?_ | refine blockA_normal ?_ | refine thenA_ret ?_ | refine thenA_exit ?_ | refine thenA_normal ?_)
          have ha : badAsk n places minutes = false := by unfold badAsk; rw [hall, hall2]; rfl
          simp (maxSteps := 4000000) only [go_sem, openF, hbad, hp, ha]
end Go.Ab
namespace Go.Ab
open Go.RowKit Go.Proofs
set_option maxHeartbeats 4000000
set_option maxRecDepth 20000
attribute [local irreducible] WalkL Walk

def iterL {α : Type} (f : α → α) : Nat → α → α
  | 0, a => a
  | k + 1, a => f (iterL f k a)

/-- Whether a path is walked, in a round of the document's table. -/
def relaxB (p : Party) (but : Int) (l : List Int) (w : Path × Nat) : Bool := ((w.2 : Int) != but) && (decide (w.1.grade ≤ p.grade) && decide (getI l w.1.frm < 1073741824))
def relaxT (p : Party) (high : Bool) (but : Int) (l : List Int) (w : Path × Nat) : List Int :=
  if relaxB p but l w then l.set w.1.to.toNat (min (getI l w.1.to) (stepF w.1 p (getI l w.1.frm) high)) else l
def passT (n : Net) (p : Party) (high : Bool) (but : Int) (l : List Int) : List Int := n.paths.zipIdx.foldl (relaxT p high but) l
def tableL (n : Net) (p : Party) (frm start : Int) (high : Bool) (but : Int) : List Int := iterL (passT n p high but) n.places.toNat (arrivals0 n frm start)

theorem relaxT_len (p : Party) (high : Bool) (but : Int) (l : List Int) (w : Path × Nat) : (relaxT p high but l w).length = l.length := by
  unfold relaxT; split <;> simp
theorem foldT_len (p : Party) (high : Bool) (but : Int) : ∀ (ws : List (Path × Nat)) (l : List Int), (ws.foldl (relaxT p high but) l).length = l.length
  | [], _ => rfl
  | w :: ws, l => by rw [List.foldl_cons, foldT_len p high but ws, relaxT_len]
theorem iterL_len (f : List Int → List Int) (hf : ∀ l, (f l).length = l.length) : ∀ (k : Nat) (l : List Int), (iterL f k l).length = l.length
  | 0, _ => rfl
  | k + 1, l => by rw [iterL, hf, iterL_len f hf k l]

theorem passT_len (n : Net) (p : Party) (high : Bool) (but : Int) (l : List Int) : (passT n p high but l).length = l.length := foldT_len p high but _ l

theorem filled_set (c : Int) (m i : Nat) (h : i < m) : (filled c m i).set i [.i c] = filled c m (i + 1) := by
  unfold filled
  rw [List.set_append_right _ _ (by simp), List.length_replicate, Nat.sub_self]
  obtain ⟨k, hk⟩ : ∃ k, m - i = k + 1 := ⟨m - i - 1, by omega⟩
  rw [hk, List.replicate_succ, List.set_cons_zero, show m - (i + 1) = k by omega, List.replicate_succ', List.append_assoc]
  rfl

theorem f76 (n : Net) (p : Party) (frm start : Int) (high : Bool) (but : Int) (hn : n.Ok) (hfr : 0 ≤ frm ∧ frm < n.places) :
    Fn Try.prog 76 [.agg n.cells, .agg p.cells, .i frm, .i start, .bool high, .i but] (.sl (intRows (tableL n p frm start high but))) := by
  obtain ⟨m, hm⟩ : ∃ m : Nat, n.places = m := ⟨n.places.toNat, by have := hn.places.1; omega⟩
  have hpl := hn.places
  have hmb : m < 2 ^ 20 := by omega
  refine fn_walk 90 Try.call76 Try.func76 rfl (by decide) fun J => ?_
  simp (maxSteps := 4000000) only [go_sem, St.start, Try.ntmps76, Try.results76, Net.cells, Party.cells]
  have hmk : n.places ≤ 1099511627776 := by omega
  have htn : n.places.toNat = m := by omega
  repeat (first | refine walkL_seq ?_ | refine walkL_skip ?_ | refine walkL_block ?_ | (refine walkL_region fun K hK => ?_; simp (maxSteps := 4000000) only [go_sem, hpl.1, hmk, htn]; refine hK _ ?_; clear hK K) | refine walkL_nil ?_ | refine walkL_ret ?_ | refine walkL_exit ?_ | refine blockA_here ?_ | refine blockA_other rfl ?_ | refine blockA_ret ?_ | refine blockA_normal ?_ | refine thenA_ret ?_ | refine thenA_exit ?_ | refine thenA_normal ?_)
  refine walkL_loopS (fun (i : Nat) => [(14, .d (.i i))]) (fun i => [(20, some (.arr 3 1 (filled never m i)))]) (fun i => i ≤ m) (fun i => m - i) 0 ?_ (Nat.zero_le _) ?_
  · simp (maxSteps := 4000000) only [go_sem]
    rw [show filled never m 0 = List.replicate m [.i 0] from by simp [filled]]
    refine weak_of [] ?_ ?_ rfl rfl <;> simp [lessT, lessM, lessB, AV.less]
  · intro i hi
    have hl := filled_len never m i hi
    simp (maxSteps := 4000000) only [go_sem]
    repeat (first | refine walkL_seq ?_ | refine walkL_skip ?_ | refine walkL_block ?_ | (refine walkL_region fun K hK => ?_; simp (maxSteps := 4000000) only [go_sem]; refine hK _ ?_; clear hK K) | refine walkL_nil ?_ | refine walkL_ret ?_ | refine walkL_exit ?_ | refine blockA_here ?_ | refine blockA_other rfl ?_ | refine blockA_ret ?_ | refine blockA_normal ?_ | refine thenA_ret ?_ | refine thenA_exit ?_ | refine thenA_normal ?_)
    refine walkL_cond rfl (fun hb => ?_) (fun hb => ?_)
    · have hb : (i : Int) < n.places := by simpa using hb
      have hlt : i < m := by omega
      have hw : IntKind.i64.wrap ((i : Int) + 1) = ((i + 1 : Nat) : Int) := by rw [wr_small (by omega)]; simp
      have hg : (filled never m i)[i]? = some [.i 0] := by
        unfold filled
        rw [List.getElem?_append_right (by simp), List.length_replicate, Nat.sub_self]
        obtain ⟨k, hk⟩ : ∃ k, m - i = k + 1 := ⟨m - i - 1, by omega⟩
        rw [hk]; rfl
      have hs : (filled never m i).set i [.i 1073741824] = filled never m (i + 1) := filled_set never m i hlt
      repeat (first | refine walkL_seq ?_ | refine walkL_skip ?_ | refine walkL_block ?_ | (refine walkL_region fun K hK => ?_; simp (maxSteps := 4000000) only [go_sem, hl, hlt, hg, hw]; refine hK _ ?_; clear hK K) | refine walkL_nil ?_ | refine walkL_ret ?_ | refine walkL_exit ?_ | refine blockA_here ?_ | refine blockA_other rfl ?_ | refine blockA_ret ?_ | refine blockA_normal ?_ | refine thenA_ret ?_ | refine thenA_exit ?_ | refine thenA_normal ?_)
      refine ⟨rfl, i + 1, ?_, hlt, by omega⟩
      rw [← hs]
      refine weak_of [] ?_ ?_ rfl rfl <;> simp [lessT, lessM, lessB, AV.less]
    · have he : i = m := by (have : ¬ (i : Int) < n.places := by simpa using hb); omega
      subst he
      have hfl : filled never i i = intRows (List.replicate i never) := by rw [← intRows_replicate]; simp [filled]
      have hlt : frm.toNat < i := by omega
      have hset : (List.replicate i never).set frm.toNat start = arrivals0 n frm start := by rw [arrivals0, hm]; rfl
      have hg : (intRows (List.replicate i never))[frm.toNat]? = some [.i never] := by simp [intRows, hlt]
      have hrl : (intRows (List.replicate i never)).length = i := by simp [intRows]
      repeat (first | refine walkL_seq ?_ | refine walkL_skip ?_ | refine walkL_block ?_ | (refine walkL_region fun K hK => ?_; simp (maxSteps := 4000000) only [go_sem, hfl, hfr.1, hlt, hg, hrl, intRows_set, hset]; refine hK _ ?_; clear hK K) | refine walkL_nil ?_ | refine walkL_ret ?_ | refine walkL_exit ?_ | refine blockA_here ?_ | refine blockA_other rfl ?_ | refine blockA_ret ?_ | refine blockA_normal ?_ | refine thenA_ret ?_ | refine thenA_exit ?_ | refine thenA_normal ?_)
      refine walkL_loopS (fun (r : Nat) => [(15, .d (.i r))]) (fun r => [(20, some (.arr 3 1 (intRows (iterL (passT n p high but) r (arrivals0 n frm start)))))]) (fun r => r ≤ i) (fun r => i - r) 0 ?_ (Nat.zero_le _) ?_
      · simp (maxSteps := 4000000) only [go_sem]
        refine weak_of [] ?_ ?_ rfl rfl <;> simp [lessT, lessM, lessB, AV.less]
        rfl
      · intro r hr
        obtain ⟨l, hl0⟩ : ∃ l, l = iterL (passT n p high but) r (arrivals0 n frm start) := ⟨_, rfl⟩
        have hll : l.length = i := by rw [hl0, iterL_len _ (passT_len n p high but)]; simp [arrivals0, hm]
        rw [← hl0]
        simp (maxSteps := 4000000) only [go_sem]
        repeat (first | refine walkL_seq ?_ | refine walkL_skip ?_ | refine walkL_block ?_ | (refine walkL_region fun K hK => ?_; simp (maxSteps := 4000000) only [go_sem]; refine hK _ ?_; clear hK K) | refine walkL_nil ?_ | refine walkL_ret ?_ | refine walkL_exit ?_ | refine blockA_here ?_ | refine blockA_other rfl ?_ | refine blockA_ret ?_ | refine blockA_normal ?_ | refine thenA_ret ?_ | refine thenA_exit ?_ | refine thenA_normal ?_)
        refine walkL_cond rfl (fun hb => ?_) (fun hb => ?_)
        · have hb : (r : Int) < n.places := by simpa using hb
          have hlr : r < i := by omega
          have hwr : IntKind.i64.wrap ((r : Int) + 1) = ((r + 1 : Nat) : Int) := by rw [wr_small (by omega)]; simp
          have hbound := hn.paths
          repeat (first | refine walkL_seq ?_ | refine walkL_skip ?_ | refine walkL_block ?_ | (refine walkL_region fun K hK => ?_; simp (maxSteps := 4000000) only [go_sem]; refine hK _ ?_; clear hK K) | refine walkL_nil ?_ | refine walkL_ret ?_ | refine walkL_exit ?_ | refine blockA_here ?_ | refine blockA_other rfl ?_ | refine blockA_ret ?_ | refine blockA_normal ?_ | refine thenA_ret ?_ | refine thenA_exit ?_ | refine thenA_normal ?_)
          refine walkL_loopS (fun (j : Nat) => [(16, .d (.i j))]) (fun j => [(20, some (.arr 3 1 (intRows ((n.paths.zipIdx.take j).foldl (relaxT p high but) l))))]) (fun j => j ≤ n.paths.length) (fun j => n.paths.length - j) 0 ?_ (Nat.zero_le _) ?_
          · simp (maxSteps := 4000000) only [go_sem]
            refine weak_of [] ?_ ?_ rfl rfl <;> simp [lessT, lessM, lessB, AV.less]
          · intro j hj
            obtain ⟨a, ha0⟩ : ∃ a, a = (n.paths.zipIdx.take j).foldl (relaxT p high but) l := ⟨_, rfl⟩
            have hal : a.length = i := by rw [ha0, foldT_len, hll]
            rw [← ha0]
            simp (maxSteps := 4000000) only [go_sem]
            repeat (first | refine walkL_seq ?_ | refine walkL_skip ?_ | refine walkL_block ?_ | (refine walkL_region fun K hK => ?_; simp (maxSteps := 4000000) only [go_sem]; refine hK _ ?_; clear hK K) | refine walkL_nil ?_ | refine walkL_ret ?_ | refine walkL_exit ?_ | refine blockA_here ?_ | refine blockA_other rfl ?_ | refine blockA_ret ?_ | refine blockA_normal ?_ | refine thenA_ret ?_ | refine thenA_exit ?_ | refine thenA_normal ?_)
            refine walkL_cond rfl (fun hb => ?_) (fun hb => ?_)
            · have hlj : j < n.paths.length := by simpa using hb
              have hwj : IntKind.i64.wrap ((j : Int) + 1) = ((j + 1 : Nat) : Int) := by rw [wr_small (by omega)]; simp
              obtain ⟨x, hx⟩ : ∃ x, n.paths[j]? = some x := ⟨_, List.getElem?_eq_getElem hlj⟩
              have hmem := List.mem_of_getElem? hx
              have hf := hn.frm x hmem
              have ht := hn.to x hmem
              have g1 : (intRows a)[x.to.toNat]? = some [.i (getI a x.to)] := intRows_get ht.1 (by omega)
              have g2 : (intRows a)[x.frm.toNat]? = some [.i (getI a x.frm)] := intRows_get hf.1 (by omega)
              have g3 : x.to.toNat < (intRows a).length := by rw [intRows_len]; omega
              have g4 : x.frm.toNat < (intRows a).length := by rw [intRows_len]; omega
              have hnx : (n.paths.zipIdx.take (j + 1)).foldl (relaxT p high but) l = relaxT p high but a (x, j) := by rw [ha0]; exact foldl_take_succ _ _ _ _ _ (by simp [hx])
              have h61 := f61 n p j x hx
              have h35 := f35 n p j x (getI a x.frm) high hx (by have := hn.opens x hmem; omega)
              repeat (first | refine walkL_seq ?_ | refine walkL_skip ?_ | refine walkL_block ?_ | (refine walkL_region fun K hK => ?_; simp (maxSteps := 4000000) only [go_sem, hx, List.getElem?_map, Path.row]; refine hK _ ?_; clear hK K) | refine walkL_nil ?_ | refine walkL_ret ?_ | refine walkL_exit ?_ | refine blockA_here ?_ | refine blockA_other rfl ?_ | refine blockA_ret ?_ | refine blockA_normal ?_ | refine thenA_ret ?_ | refine thenA_exit ?_ | refine thenA_normal ?_)
              refine walkL_meetS [(68, .d (.bool (relaxB p but a (x, j))))] [] ?_ ?_
              · refine walkL_region fun K hK => ?_
                simp (maxSteps := 4000000) only [go_sem, hx, g1, g2, g3, g4, ht.1, hf.1, List.getElem?_map]
                by_cases ho0 : ((j : Int) != but) = true
                · simp (maxSteps := 4000000) only [go_sem, hx, g1, g2, g3, g4, ht.1, hf.1, List.getElem?_map, ho0]
                  refine ⟨_, .lent (hf := h61) (hd := rfl) (hr := rfl), ?_⟩
                  simp (maxSteps := 4000000) only [go_sem, hx, g1, g2, g3, g4, ht.1, hf.1, List.getElem?_map, ho0]
                  by_cases ho1 : (decide (x.grade ≤ p.grade)) = true
                  · simp (maxSteps := 4000000) only [go_sem, hx, g1, g2, g3, g4, ht.1, hf.1, List.getElem?_map, ho0, ho1]
                    refine hK _ ?_
                    clear hK K
                    refine walkL_nil ?_
                    refine thenA_normal ?_
                    refine ⟨rfl, ?_⟩
                    rw [show (relaxB p but a (x, j)) = (decide (getI a x.frm < 1073741824)) from by simp [relaxB, ho0, ho1]]
                    simp (maxSteps := 4000000) only [go_sem]
                    refine weak_of [] ?_ ?_ rfl rfl <;> simp [lessT, lessM, lessB, AV.less]
                  · simp (maxSteps := 4000000) only [go_sem, hx, g1, g2, g3, g4, ht.1, hf.1, List.getElem?_map, ho0, ho1]
                    refine hK _ ?_
                    clear hK K
                    refine walkL_nil ?_
                    refine thenA_normal ?_
                    refine ⟨rfl, ?_⟩
                    rw [show (relaxB p but a (x, j)) = (false) from by simp [relaxB, ho0, ho1]]
                    simp (maxSteps := 4000000) only [go_sem]
                    refine weak_of [] ?_ ?_ rfl rfl <;> simp [lessT, lessM, lessB, AV.less]
                · simp (maxSteps := 4000000) only [go_sem, hx, g1, g2, g3, g4, ht.1, hf.1, List.getElem?_map, ho0]
                  refine hK _ ?_
                  clear hK K
                  refine walkL_nil ?_
                  refine thenA_normal ?_
                  refine ⟨rfl, ?_⟩
                  rw [show (relaxB p but a (x, j)) = (false) from by simp [relaxB, ho0]]
                  simp (maxSteps := 4000000) only [go_sem]
                  refine weak_of [] ?_ ?_ rfl rfl <;> simp [lessT, lessM, lessB, AV.less]
              simp (maxSteps := 4000000) only [go_sem]
              refine walkL_cond rfl (fun hc => ?_) (fun hc => ?_)
              · refine walkL_drawn (by kernel_rfl) (by kernel_rfl) fun K hK => ?_
                simp (maxSteps := 4000000) only [go_sem, g1, g2, g3, g4, ht.1, hf.1]
                refine ⟨_, .fn (hf := h35) (hd := rfl) (hr := .inl rfl), ?_⟩
                simp (maxSteps := 4000000) only [go_sem, g1, g2, g3, g4, ht.1, hf.1]
                refine ⟨by kernel_rfl, hK _ ?_⟩
                clear hK K
                repeat (first | refine walkL_seq ?_ | refine walkL_skip ?_ | refine walkL_block ?_ | (refine walkL_region fun K hK => ?_; simp (maxSteps := 4000000) only [go_sem, hwj]; refine hK _ ?_; clear hK K) | refine walkL_nil ?_ | refine walkL_ret ?_ | refine walkL_exit ?_ | refine blockA_here ?_ | refine blockA_other rfl ?_ | refine blockA_ret ?_ | refine blockA_normal ?_ | refine thenA_ret ?_ | refine thenA_exit ?_ | refine thenA_normal ?_)
                refine ⟨rfl, j + 1, ?_, hlj, by omega⟩
                rw [hnx, relaxT, if_pos hc, ← intRows_set]
                refine weak_of [] ?_ ?_ rfl rfl <;> simp [lessT, lessM, lessB, AV.less]
              · repeat (first | refine walkL_seq ?_ | refine walkL_skip ?_ | refine walkL_block ?_ | (refine walkL_region fun K hK => ?_; simp (maxSteps := 4000000) only [go_sem, hwj]; refine hK _ ?_; clear hK K) | refine walkL_nil ?_ | refine walkL_ret ?_ | refine walkL_exit ?_ | refine blockA_here ?_ | refine blockA_other rfl ?_ | refine blockA_ret ?_ | refine blockA_normal ?_ | refine thenA_ret ?_ | refine thenA_exit ?_ | refine thenA_normal ?_)
                refine ⟨rfl, j + 1, ?_, hlj, by omega⟩
                rw [hnx, relaxT, if_neg (by rw [hc]; simp)]
                refine weak_of [] ?_ ?_ rfl rfl <;> simp [lessT, lessM, lessB, AV.less]
            · have he : j = n.paths.length := by (have : ¬ j < n.paths.length := by simpa using hb); omega
              have hdone : a = passT n p high but l := by rw [ha0, he, passT, show n.paths.length = n.paths.zipIdx.length by simp, List.take_length]
              repeat (first | refine walkL_seq ?_ | refine walkL_skip ?_ | refine walkL_block ?_ | (refine walkL_region fun K hK => ?_; simp (maxSteps := 4000000) only [go_sem, hwr]; refine hK _ ?_; clear hK K) | refine walkL_nil ?_ | refine walkL_ret ?_ | refine walkL_exit ?_ | refine blockA_here ?_ | refine blockA_other rfl ?_ | refine blockA_ret ?_ | refine blockA_normal ?_ | refine thenA_ret ?_ | refine thenA_exit ?_ | refine thenA_normal ?_)
              refine ⟨rfl, r + 1, ?_, hlr, by omega⟩
              rw [iterL, ← hl0, ← hdone]
              refine weak_of [] ?_ ?_ rfl rfl <;> simp [lessT, lessM, lessB, AV.less]
        · have he : r = i := by (have : ¬ (r : Int) < n.places := by simpa using hb); omega
          repeat (first | refine walkL_seq ?_ | refine walkL_skip ?_ | refine walkL_block ?_ | (refine walkL_region fun K hK => ?_; simp (maxSteps := 4000000) only [go_sem]; refine hK _ ?_; clear hK K) | refine walkL_nil ?_ | refine walkL_ret ?_ | refine walkL_exit ?_ | refine blockA_here ?_ | refine blockA_other rfl ?_ | refine blockA_ret ?_ | refine blockA_normal ?_ | refine thenA_ret ?_ | refine thenA_exit ?_ | refine thenA_normal ?_)
          simp (maxSteps := 4000000) only [go_sem, hl0, he, tableL, htn]
end Go.Ab
namespace Go.Ab
open Go.RowKit Go.Proofs
set_option maxHeartbeats 4000000
set_option maxRecDepth 20000
attribute [local irreducible] WalkL Walk

def sureF (n : Net) (p : Party) (frm start to but : Int) : Int := getI (tableL n p frm start true but) to

theorem table_len (n : Net) (p : Party) (frm start : Int) (high : Bool) (but : Int) : (tableL n p frm start high but).length = n.places.toNat := by
  rw [tableL, iterL_len _ (passT_len n p high but)]; simp [arrivals0]

theorem f55 (n : Net) (p : Party) (frm start to but : Int) (hn : n.Ok) (hfr : 0 ≤ frm ∧ frm < n.places) (hto : 0 ≤ to ∧ to < n.places) :
    Fn Try.prog 55 [.agg n.cells, .agg p.cells, .i frm, .i start, .i to, .i but] (.i (sureF n p frm start to but)) := by
  refine fn_walk 22 Try.call55 Try.func55 rfl (by decide) fun J => ?_
  simp (maxSteps := 4000000) only [go_sem, St.start, Try.ntmps55, Try.results55, Net.cells, Party.cells]
  have hg : (intRows (tableL n p frm start true but))[to.toNat]? = some [.i (getI (tableL n p frm start true but) to)] := intRows_get hto.1 (by rw [table_len]; omega)
  repeat (first | refine walkL_seq ?_ | refine walkL_skip ?_ | refine walkL_block ?_ | (refine walkL_region fun K hK => ?_; simp (maxSteps := 4000000) only [go_sem, hg, hto.1]; (repeat (first | (refine ⟨_, .lent (hf := f76 n p frm start true but hn hfr) (hd := rfl) (hr := rfl), ?_⟩; simp (maxSteps := 4000000) only [go_sem, hg, hto.1]) | (refine ⟨_, .given (hf := f76 n p frm start true but hn hfr) (hd := rfl) (ha := rfl), ?_⟩; simp (maxSteps := 4000000) only [go_sem, hg, hto.1]))); refine hK _ ?_; clear hK K) | refine walkL_nil ?_ | refine walkL_ret ?_ | refine walkL_exit ?_ | refine blockA_here ?_ | refine blockA_other rfl ?_ | refine blockA_ret ?_ | refine blockA_normal ?_ | refine thenA_ret ?_ | refine thenA_exit ?_ | refine thenA_normal ?_)
  simp (maxSteps := 4000000) only [go_sem, sureF]

theorem intRows_head (l : List Int) : headIs 1 (intRows l) = true := by cases l <;> rfl

def shown1 (t : Int) : Int := if t ≥ never then -1 else t

theorem map_step {f : Int → Int} (l : List Int) (i : Nat) (h : i < l.length) : ((l.take i).map f ++ l.drop i).set i (f l[i]) = (l.take (i + 1)).map f ++ l.drop (i + 1) := by
  have h1 : ((l.take i).map f).length = i := by simp; omega
  rw [List.set_append_right _ _ (by omega), h1, Nat.sub_self, List.drop_eq_getElem_cons h, List.set_cons_zero, List.take_add_one, List.map_append]
  simp [h]

theorem map_get {f : Int → Int} (l : List Int) (i : Nat) (h : i < l.length) : ((l.take i).map f ++ l.drop i)[i]? = some l[i] := by
  have h1 : ((l.take i).map f).length = i := by simp; omega
  rw [List.getElem?_append_right (by omega), h1]
  simp [h]

theorem map_len {f : Int → Int} (l : List Int) (i : Nat) : ((l.take i).map f ++ l.drop i).length = l.length := by simp; omega

theorem f75 (l : List Int) (hl : l.length < 2 ^ 30) : Fn Try.prog 75 [.sl (intRows l)] (.sl (intRows (l.map shown1))) := by
  refine fn_walk 23 Try.call75 Try.func75 rfl (by decide) fun J => ?_
  simp (maxSteps := 4000000) only [go_sem, St.start, Try.ntmps75, Try.results75]
  have h1 : l.length ≤ 549755813888 := by omega
  repeat (first | refine walkL_seq ?_ | refine walkL_skip ?_ | refine walkL_block ?_ | (refine walkL_region fun K hK => ?_; simp (maxSteps := 4000000) only [go_sem, intRows_len, intRows_head, h1]; refine hK _ ?_; clear hK K) | refine walkL_nil ?_ | refine walkL_ret ?_ | refine walkL_exit ?_ | refine blockA_here ?_ | refine blockA_other rfl ?_ | refine blockA_ret ?_ | refine blockA_normal ?_ | refine thenA_ret ?_ | refine thenA_exit ?_ | refine thenA_normal ?_)
  refine walkL_loopS (fun (i : Nat) => [(4, .d (.i i)), (3, .own 5)]) (fun i => [(5, some (.arr 3 1 (intRows ((l.take i).map shown1 ++ l.drop i))))]) (fun i => i ≤ l.length) (fun i => l.length - i) 0 ?_ (Nat.zero_le _) ?_
  · simp (maxSteps := 4000000) only [go_sem]
    refine weak_of [] ?_ ?_ rfl rfl <;> simp [lessT, lessM, lessB, AV.less]
  · intro i hi
    have hlen := map_len (f := shown1) l i
    simp (maxSteps := 4000000) only [go_sem]
    repeat (first | refine walkL_seq ?_ | refine walkL_skip ?_ | refine walkL_block ?_ | (refine walkL_region fun K hK => ?_; simp (maxSteps := 4000000) only [go_sem, intRows_len, hlen]; refine hK _ ?_; clear hK K) | refine walkL_nil ?_ | refine walkL_ret ?_ | refine walkL_exit ?_ | refine blockA_here ?_ | refine blockA_other rfl ?_ | refine blockA_ret ?_ | refine blockA_normal ?_ | refine thenA_ret ?_ | refine thenA_exit ?_ | refine thenA_normal ?_)
    refine walkL_cond rfl (fun hb => ?_) (fun hb => ?_)
    · have hlt : i < l.length := by simpa using hb
      have hw : IntKind.i64.wrap ((i : Int) + 1) = ((i + 1 : Nat) : Int) := by rw [wr_small (by omega)]; simp
      have g1 : (intRows ((l.take i).map shown1 ++ l.drop i))[i]? = some [.i l[i]] := intRows_at (map_get l i hlt)
      have hn := map_step (f := shown1) l i hlt
      repeat (first | refine walkL_seq ?_ | refine walkL_skip ?_ | refine walkL_block ?_ | (refine walkL_region fun K hK => ?_; simp (maxSteps := 4000000) only [go_sem, hlt, intRows_len, hlen, g1]; refine hK _ ?_; clear hK K) | refine walkL_nil ?_ | refine walkL_ret ?_ | refine walkL_exit ?_ | refine blockA_here ?_ | refine blockA_other rfl ?_ | refine blockA_ret ?_ | refine blockA_normal ?_ | refine thenA_ret ?_ | refine thenA_exit ?_ | refine thenA_normal ?_)
      refine walkL_cond rfl (fun hc => ?_) (fun hc => ?_)
      · have hc : l[i] ≥ never := by simpa [never] using hc
        have ht : shown1 l[i] = -1 := by unfold shown1; rw [if_pos hc]
        rw [ht] at hn
        repeat (first | refine walkL_seq ?_ | refine walkL_skip ?_ | refine walkL_block ?_ | (refine walkL_region fun K hK => ?_; simp (maxSteps := 4000000) only [go_sem, hlt, intRows_len, hlen, g1, hw]; refine hK _ ?_; clear hK K) | refine walkL_nil ?_ | refine walkL_ret ?_ | refine walkL_exit ?_ | refine blockA_here ?_ | refine blockA_other rfl ?_ | refine blockA_ret ?_ | refine blockA_normal ?_ | refine thenA_ret ?_ | refine thenA_exit ?_ | refine thenA_normal ?_)
        refine ⟨rfl, i + 1, ?_, hlt, by omega⟩
        rw [← hn, ← intRows_set]
        refine weak_of [] ?_ ?_ rfl rfl <;> simp [lessT, lessM, lessB, AV.less]
      · have hc : ¬ l[i] ≥ never := by simpa [never] using hc
        have ht : shown1 l[i] = l[i] := by unfold shown1; rw [if_neg hc]
        repeat (first | refine walkL_seq ?_ | refine walkL_skip ?_ | refine walkL_block ?_ | (refine walkL_region fun K hK => ?_; simp (maxSteps := 4000000) only [go_sem, hlt, intRows_len, hlen, g1, hw]; refine hK _ ?_; clear hK K) | refine walkL_nil ?_ | refine walkL_ret ?_ | refine walkL_exit ?_ | refine blockA_here ?_ | refine blockA_other rfl ?_ | refine blockA_ret ?_ | refine blockA_normal ?_ | refine thenA_ret ?_ | refine thenA_exit ?_ | refine thenA_normal ?_)
        refine ⟨rfl, i + 1, ?_, hlt, by omega⟩
        rw [ht, set_same (map_get l i hlt)] at hn
        rw [← hn]
        refine weak_of [] ?_ ?_ rfl rfl <;> simp [lessT, lessM, lessB, AV.less]
    · have he : i = l.length := by (have : ¬ i < l.length := by simpa using hb); omega
      subst he
      repeat (first | refine walkL_seq ?_ | refine walkL_skip ?_ | refine walkL_block ?_ | (refine walkL_region fun K hK => ?_; simp (maxSteps := 4000000) only [go_sem]; refine hK _ ?_; clear hK K) | refine walkL_nil ?_ | refine walkL_ret ?_ | refine walkL_exit ?_ | refine blockA_here ?_ | refine blockA_other rfl ?_ | refine blockA_ret ?_ | refine blockA_normal ?_ | refine thenA_ret ?_ | refine thenA_exit ?_ | refine thenA_normal ?_)
      simp (maxSteps := 4000000) only [go_sem, List.take_length, List.drop_length]

/-- The positions of what is at most d. -/
def untilL (d : Int) (l : List Int) : List Int := (l.zipIdx.filter fun x => decide (x.1 ≤ d)).map fun x => (x.2 : Int)

theorem untilL_succ {d : Int} {l : List Int} {i : Nat} {x : Int} (h : l[i]? = some x) : untilL d (l.take (i + 1)) = untilL d (l.take i) ++ if x ≤ d then [(i : Int)] else [] := by
  have hlt := (List.getElem?_eq_some_iff.1 h).1
  rw [List.take_add_one, h]
  simp only [Option.toList_some, untilL, List.zipIdx_append, List.filter_append, List.map_append]
  congr 1
  simp only [List.length_take, Nat.min_eq_left (Nat.le_of_lt hlt), Nat.zero_add, List.zipIdx_cons, List.zipIdx_nil, List.filter_cons]
  by_cases hx : x ≤ d <;> simp [hx]

theorem untilL_len (d : Int) (l : List Int) : (untilL d l).length ≤ l.length := by
  unfold untilL
  rw [List.length_map]
  exact Nat.le_trans (List.length_filter_le _ _) (by simp)

theorem intRows_append (a b : List Int) : intRows a ++ intRows b = intRows (a ++ b) := by simp [intRows]

theorem f80 (l : List Int) (d : Int) (hl : l.length < 2 ^ 30) : FnS Try.prog 80 [.sl (intRows l), .i d] 3 1 (intRows (untilL d l)) := by
  refine fnS_walk 24 Try.call80 Try.func80 rfl (by decide) fun J => ?_
  simp (maxSteps := 4000000) only [go_sem, St.start, Try.ntmps80, Try.results80]
  repeat (first | refine walkL_seq ?_ | refine walkL_skip ?_ | refine walkL_block ?_ | (refine walkL_region fun K hK => ?_; simp (maxSteps := 4000000) only [go_sem]; refine hK _ ?_; clear hK K) | refine walkL_nil ?_ | refine walkL_ret ?_ | refine walkL_exit ?_ | refine blockA_here ?_ | refine blockA_other rfl ?_ | refine blockA_ret ?_ | refine blockA_normal ?_ | refine thenA_ret ?_ | refine thenA_exit ?_ | refine thenA_normal ?_)
  refine walkL_loopS (fun (i : Nat) => [(6, .d (.i i)), (5, .own 5)]) (fun i => [(5, some (.arr 3 1 (intRows (untilL d (l.take i)))))]) (fun i => i ≤ l.length) (fun i => l.length - i) 0 ?_ (Nat.zero_le _) ?_
  · simp (maxSteps := 4000000) only [go_sem]
    refine weak_of [5] ?_ ?_ rfl rfl <;> simp [lessT, lessM, lessB, AV.less, untilL, intRows]
  · intro i hi
    simp (maxSteps := 4000000) only [go_sem]
    repeat (first | refine walkL_seq ?_ | refine walkL_skip ?_ | refine walkL_block ?_ | (refine walkL_region fun K hK => ?_; simp (maxSteps := 4000000) only [go_sem, intRows_len]; refine hK _ ?_; clear hK K) | refine walkL_nil ?_ | refine walkL_ret ?_ | refine walkL_exit ?_ | refine blockA_here ?_ | refine blockA_other rfl ?_ | refine blockA_ret ?_ | refine blockA_normal ?_ | refine thenA_ret ?_ | refine thenA_exit ?_ | refine thenA_normal ?_)
    refine walkL_cond rfl (fun hb => ?_) (fun hb => ?_)
    · have hlt : i < l.length := by simpa using hb
      have hw : IntKind.i64.wrap ((i : Int) + 1) = ((i + 1 : Nat) : Int) := by rw [wr_small (by omega)]; simp
      obtain ⟨x, hx⟩ : ∃ x, l[i]? = some x := ⟨_, List.getElem?_eq_getElem hlt⟩
      have g1 := intRows_at hx
      have hn := untilL_succ (d := d) hx
      have hlen : (untilL d (l.take i)).length + 1 ≤ 549755813888 := by
        have := untilL_len d (l.take i)
        simp only [List.length_take] at this
        omega
      repeat (first | refine walkL_seq ?_ | refine walkL_skip ?_ | refine walkL_block ?_ | (refine walkL_region fun K hK => ?_; simp (maxSteps := 4000000) only [go_sem, g1]; refine hK _ ?_; clear hK K) | refine walkL_nil ?_ | refine walkL_ret ?_ | refine walkL_exit ?_ | refine blockA_here ?_ | refine blockA_other rfl ?_ | refine blockA_ret ?_ | refine blockA_normal ?_ | refine thenA_ret ?_ | refine thenA_exit ?_ | refine thenA_normal ?_)
      refine walkL_cond rfl (fun hc => ?_) (fun hc => ?_)
      · have hc : x ≤ d := by simpa using hc
        rw [if_pos hc] at hn
        repeat (first | refine walkL_seq ?_ | refine walkL_skip ?_ | refine walkL_block ?_ | (refine walkL_region fun K hK => ?_; simp (maxSteps := 4000000) only [go_sem, g1, hlen, intRows_len, hw]; refine hK _ ?_; clear hK K) | refine walkL_nil ?_ | refine walkL_ret ?_ | refine walkL_exit ?_ | refine blockA_here ?_ | refine blockA_other rfl ?_ | refine blockA_ret ?_ | refine blockA_normal ?_ | refine thenA_ret ?_ | refine thenA_exit ?_ | refine thenA_normal ?_)
        refine ⟨rfl, i + 1, ?_, hlt, by omega⟩
        rw [hn, ← intRows_append]
        refine weak_of [] ?_ ?_ rfl rfl <;> simp [lessT, lessM, lessB, AV.less]
        rfl
      · have hc : ¬ x ≤ d := by simpa using hc
        rw [if_neg hc, List.append_nil] at hn
        repeat (first | refine walkL_seq ?_ | refine walkL_skip ?_ | refine walkL_block ?_ | (refine walkL_region fun K hK => ?_; simp (maxSteps := 4000000) only [go_sem, hw]; refine hK _ ?_; clear hK K) | refine walkL_nil ?_ | refine walkL_ret ?_ | refine walkL_exit ?_ | refine blockA_here ?_ | refine blockA_other rfl ?_ | refine blockA_ret ?_ | refine blockA_normal ?_ | refine thenA_ret ?_ | refine thenA_exit ?_ | refine thenA_normal ?_)
        refine ⟨rfl, i + 1, ?_, hlt, by omega⟩
        rw [hn]
        refine weak_of [] ?_ ?_ rfl rfl <;> simp [lessT, lessM, lessB, AV.less]
    · have he : i = l.length := by (have : ¬ i < l.length := by simpa using hb); omega
      subst he
      repeat (first | refine walkL_seq ?_ | refine walkL_skip ?_ | refine walkL_block ?_ | (refine walkL_region fun K hK => ?_; simp (maxSteps := 4000000) only [go_sem]; refine hK _ ?_; clear hK K) | refine walkL_nil ?_ | refine walkL_ret ?_ | refine walkL_exit ?_ | refine blockA_here ?_ | refine blockA_other rfl ?_ | refine blockA_ret ?_ | refine blockA_normal ?_ | refine thenA_ret ?_ | refine thenA_exit ?_ | refine thenA_normal ?_)
      simp (maxSteps := 4000000) only [go_sem, List.take_length]

theorem f79 (l : List Int) (d : Int) (hl : l.length < 2 ^ 30) : FnS Try.prog 79 [.sl (intRows l), .ptr [.i d] 0] 3 1 (intRows (untilL d l)) := by
  refine fnS_walk 22 Try.call79 Try.func79 rfl (by decide) fun J => ?_
  simp (maxSteps := 4000000) only [go_sem, St.start, Try.ntmps79, Try.results79]
  repeat (first | refine walkL_seq ?_ | refine walkL_skip ?_ | refine walkL_block ?_ | (refine walkL_region fun K hK => ?_; simp (maxSteps := 4000000) only [go_sem, intRows_len]; refine hK _ ?_; clear hK K) | refine walkL_nil ?_ | refine walkL_ret ?_ | refine walkL_exit ?_ | refine blockA_here ?_ | refine blockA_other rfl ?_ | refine blockA_ret ?_ | refine blockA_normal ?_ | refine thenA_ret ?_ | refine thenA_exit ?_ | refine thenA_normal ?_)
  refine walkL_loopS (fun (i : Nat) => [(8, .d (.i i)), (3, .own 3)]) (fun i => [(3, some (.arr 3 1 (intRows (untilL d (l.take i)))))]) (fun i => i ≤ l.length) (fun i => l.length - i) 0 ?_ (Nat.zero_le _) ?_
  · simp (maxSteps := 4000000) only [go_sem]
    refine weak_of [3] ?_ ?_ rfl rfl <;> simp [lessT, lessM, lessB, AV.less, untilL, intRows]
  · intro i hi
    simp (maxSteps := 4000000) only [go_sem]
    repeat (first | refine walkL_seq ?_ | refine walkL_skip ?_ | refine walkL_block ?_ | (refine walkL_region fun K hK => ?_; simp (maxSteps := 4000000) only [go_sem, intRows_len]; refine hK _ ?_; clear hK K) | refine walkL_nil ?_ | refine walkL_ret ?_ | refine walkL_exit ?_ | refine blockA_here ?_ | refine blockA_other rfl ?_ | refine blockA_ret ?_ | refine blockA_normal ?_ | refine thenA_ret ?_ | refine thenA_exit ?_ | refine thenA_normal ?_)
    refine walkL_cond rfl (fun hb => ?_) (fun hb => ?_)
    · have hlt : i < l.length := by simpa using hb
      have hw : IntKind.i64.wrap ((i : Int) + 1) = ((i + 1 : Nat) : Int) := by rw [wr_small (by omega)]; simp
      obtain ⟨x, hx⟩ : ∃ x, l[i]? = some x := ⟨_, List.getElem?_eq_getElem hlt⟩
      have g1 := intRows_at hx
      have hn := untilL_succ (d := d) hx
      have hlen : (untilL d (l.take i)).length + 1 ≤ 549755813888 := by
        have := untilL_len d (l.take i)
        simp only [List.length_take] at this
        omega
      repeat (first | refine walkL_seq ?_ | refine walkL_skip ?_ | refine walkL_block ?_ | (refine walkL_region fun K hK => ?_; simp (maxSteps := 4000000) only [go_sem, g1]; refine hK _ ?_; clear hK K) | refine walkL_nil ?_ | refine walkL_ret ?_ | refine walkL_exit ?_ | refine blockA_here ?_ | refine blockA_other rfl ?_ | refine blockA_ret ?_ | refine blockA_normal ?_ | refine thenA_ret ?_ | refine thenA_exit ?_ | refine thenA_normal ?_)
      refine walkL_cond rfl (fun hc => ?_) (fun hc => ?_)
      · have hc : x ≤ d := by simpa using hc
        rw [if_pos hc] at hn
        repeat (first | refine walkL_seq ?_ | refine walkL_skip ?_ | refine walkL_block ?_ | (refine walkL_region fun K hK => ?_; simp (maxSteps := 4000000) only [go_sem, g1, hlen, intRows_len, hw]; refine hK _ ?_; clear hK K) | refine walkL_nil ?_ | refine walkL_ret ?_ | refine walkL_exit ?_ | refine blockA_here ?_ | refine blockA_other rfl ?_ | refine blockA_ret ?_ | refine blockA_normal ?_ | refine thenA_ret ?_ | refine thenA_exit ?_ | refine thenA_normal ?_)
        refine ⟨rfl, i + 1, ?_, hlt, by omega⟩
        rw [hn, ← intRows_append]
        refine weak_of [] ?_ ?_ rfl rfl <;> simp [lessT, lessM, lessB, AV.less]
        rfl
      · have hc : ¬ x ≤ d := by simpa using hc
        rw [if_neg hc, List.append_nil] at hn
        repeat (first | refine walkL_seq ?_ | refine walkL_skip ?_ | refine walkL_block ?_ | (refine walkL_region fun K hK => ?_; simp (maxSteps := 4000000) only [go_sem, hw]; refine hK _ ?_; clear hK K) | refine walkL_nil ?_ | refine walkL_ret ?_ | refine walkL_exit ?_ | refine blockA_here ?_ | refine blockA_other rfl ?_ | refine blockA_ret ?_ | refine blockA_normal ?_ | refine thenA_ret ?_ | refine thenA_exit ?_ | refine thenA_normal ?_)
        refine ⟨rfl, i + 1, ?_, hlt, by omega⟩
        rw [hn]
        refine weak_of [] ?_ ?_ rfl rfl <;> simp [lessT, lessM, lessB, AV.less]
    · have he : i = l.length := by (have : ¬ i < l.length := by simpa using hb); omega
      subst he
      repeat (first | refine walkL_seq ?_ | refine walkL_skip ?_ | refine walkL_block ?_ | (refine walkL_region fun K hK => ?_; simp (maxSteps := 4000000) only [go_sem]; refine hK _ ?_; clear hK K) | refine walkL_nil ?_ | refine walkL_ret ?_ | refine walkL_exit ?_ | refine blockA_here ?_ | refine blockA_other rfl ?_ | refine blockA_ret ?_ | refine blockA_normal ?_ | refine thenA_ret ?_ | refine thenA_exit ?_ | refine thenA_normal ?_)
      simp (maxSteps := 4000000) only [go_sem, List.take_length]
end Go.Ab
