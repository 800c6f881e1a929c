/- The abstract machine: new rows of a result, seen as rows that stay. -/
import Derived.Test.YtjafmhgkfkfimaaGreatLng2
import Derived.Test.YtjafmhgkfkfimaaGreatProg
import Derived.KernelRfl
import Derived.ChangeArms
import Derived.ChangeSlices
import Derived.SizedLaws

namespace Go.AE
open Go Go.Proofs

@[simp] theorem ty0 : tyI Tryz.prog 0 = { ok := false, sz := 1, ag := false, bytes := 0, zero := [Value.tuple { toList := [] }], offs := [], elem := 0, kind := none, form := 0, eqs := [], bld := false } := by kernel_rfl
@[simp] theorem ty1 : tyI Tryz.prog 1 = { ok := true, sz := 1, ag := false, bytes := 8, zero := [Value.nilFunc], offs := [], elem := 0, kind := none, form := 0, eqs := [], bld := false } := by kernel_rfl
@[simp] theorem ty2 : tyI Tryz.prog 2 = { ok := true, sz := 1, ag := false, bytes := 8, zero := [Value.int IntKind.i64 (0)], offs := [], elem := 0, kind := some IntKind.i64, form := 3, eqs := [], bld := false } := by kernel_rfl
@[simp] theorem ty3 : tyI Tryz.prog 3 = { ok := true, sz := 1, ag := false, bytes := 8, zero := [Value.int IntKind.i64 (0)], offs := [], elem := 0, kind := some IntKind.i64, form := 3, eqs := [], bld := false } := by kernel_rfl
@[simp] theorem ty4 : tyI Tryz.prog 4 = { ok := true, sz := 1, ag := false, bytes := 1, zero := [Value.bool false], offs := [], elem := 0, kind := none, form := 4, eqs := [], bld := false } := by kernel_rfl
@[simp] theorem ty5 : tyI Tryz.prog 5 = { ok := true, sz := 1, ag := false, bytes := 1, zero := [Value.int IntKind.u8 (0)], offs := [], elem := 0, kind := some IntKind.u8, form := 3, eqs := [], bld := false } := by kernel_rfl
@[simp] theorem ty6 : tyI Tryz.prog 6 = { ok := true, sz := 1, ag := false, bytes := 1, zero := [Value.int IntKind.u8 (0)], offs := [], elem := 0, kind := some IntKind.u8, form := 3, eqs := [], bld := false } := by kernel_rfl
@[simp] theorem ty7 : tyI Tryz.prog 7 = { ok := true, sz := 4, ag := true, bytes := 24, zero := [Value.int IntKind.i64 (0), Value.int IntKind.i64 (0), Value.bool false, Value.int IntKind.u8 (0)], offs := [(0, 1, false), (1, 1, false), (2, 1, false), (3, 1, false)], elem := 0, kind := none, form := 5, eqs := [3, 3, 4, 3], bld := true } := by kernel_rfl
@[simp] theorem ty8 : tyI Tryz.prog 8 = { ok := true, sz := 4, ag := true, bytes := 24, zero := [Value.int IntKind.i64 (0), Value.int IntKind.i64 (0), Value.bool false, Value.int IntKind.u8 (0)], offs := [(0, 1, false), (1, 1, false), (2, 1, false), (3, 1, false)], elem := 0, kind := none, form := 5, eqs := [3, 3, 4, 3], bld := true } := by kernel_rfl
@[simp] theorem ty9 : tyI Tryz.prog 9 = { ok := true, sz := 1, ag := false, bytes := 16, zero := [Value.string ⟨#[]⟩], offs := [], elem := 0, kind := none, form := 1, eqs := [], bld := false } := by kernel_rfl
@[simp] theorem ty10 : tyI Tryz.prog 10 = { ok := true, sz := 1, ag := false, bytes := 16, zero := [Value.string ⟨#[]⟩], offs := [], elem := 0, kind := none, form := 1, eqs := [], bld := false } := by kernel_rfl
@[simp] theorem ty11 : tyI Tryz.prog 11 = { ok := true, sz := 1, ag := false, bytes := 16, zero := [Value.string ⟨#[]⟩], offs := [], elem := 0, kind := none, form := 1, eqs := [], bld := false } := by kernel_rfl
@[simp] theorem ty12 : tyI Tryz.prog 12 = { ok := true, sz := 1, ag := false, bytes := 8, zero := [Value.int IntKind.u64 (0)], offs := [], elem := 0, kind := some IntKind.u64, form := 3, eqs := [], bld := false } := by kernel_rfl
@[simp] theorem ty13 : tyI Tryz.prog 13 = { ok := true, sz := 2, ag := true, bytes := 24, zero := [Value.string ⟨#[]⟩, Value.int IntKind.u64 (0)], offs := [(0, 1, false), (1, 1, false)], elem := 0, kind := none, form := 5, eqs := [], bld := true } := by kernel_rfl
@[simp] theorem ty14 : tyI Tryz.prog 14 = { ok := true, sz := 2, ag := true, bytes := 24, zero := [Value.string ⟨#[]⟩, Value.int IntKind.u64 (0)], offs := [(0, 1, false), (1, 1, false)], elem := 0, kind := none, form := 5, eqs := [], bld := true } := by kernel_rfl
@[simp] theorem ty15 : tyI Tryz.prog 15 = { ok := true, sz := 1, ag := false, bytes := 8, zero := [Value.pointer none], offs := [], elem := 0, kind := none, form := 0, eqs := [], bld := false } := by kernel_rfl
@[simp] theorem ty16 : tyI Tryz.prog 16 = { ok := true, sz := 1, ag := false, bytes := 8, zero := [Value.pointer none], offs := [], elem := 0, kind := none, form := 0, eqs := [], bld := false } := by kernel_rfl
@[simp] theorem ty17 : tyI Tryz.prog 17 = { ok := true, sz := 1, ag := false, bytes := 8, zero := [Value.pointer none], offs := [], elem := 0, kind := none, form := 0, eqs := [], bld := false } := by kernel_rfl
@[simp] theorem ty18 : tyI Tryz.prog 18 = { ok := true, sz := 1, ag := true, bytes := 8, zero := [Value.pointer none], offs := [(0, 1, false)], elem := 0, kind := none, form := 5, eqs := [], bld := true } := by kernel_rfl
@[simp] theorem ty19 : tyI Tryz.prog 19 = { ok := true, sz := 1, ag := true, bytes := 8, zero := [Value.pointer none], offs := [(0, 1, false)], elem := 0, kind := none, form := 5, eqs := [], bld := true } := by kernel_rfl
@[simp] theorem ty20 : tyI Tryz.prog 20 = { ok := true, sz := 1, ag := false, bytes := 16, zero := [Value.nilIface], offs := [], elem := 0, kind := none, form := 0, eqs := [], bld := false } := by kernel_rfl
@[simp] theorem ty21 : tyI Tryz.prog 21 = { ok := true, sz := 1, ag := false, bytes := 4, zero := [Value.int IntKind.i32 (0)], offs := [], elem := 0, kind := some IntKind.i32, form := 3, eqs := [], bld := false } := by kernel_rfl
@[simp] theorem ty22 : tyI Tryz.prog 22 = { ok := true, sz := 1, ag := false, bytes := 24, zero := [Value.slice none 0 0], offs := [], elem := 40, kind := none, form := 2, eqs := [], bld := false } := by kernel_rfl
@[simp] theorem ty23 : tyI Tryz.prog 23 = { ok := true, sz := 1, ag := false, bytes := 24, zero := [Value.slice none 0 0], offs := [], elem := 38, kind := none, form := 2, eqs := [], bld := false } := by kernel_rfl
@[simp] theorem ty24 : tyI Tryz.prog 24 = { ok := true, sz := 1, ag := false, bytes := 24, zero := [Value.slice none 0 0], offs := [], elem := 3, kind := none, form := 2, eqs := [], bld := false } := by kernel_rfl
@[simp] theorem ty25 : tyI Tryz.prog 25 = { ok := true, sz := 3, ag := true, bytes := 72, zero := [Value.slice none 0 0, Value.slice none 0 0, Value.slice none 0 0], offs := [(0, 1, false), (1, 1, false), (2, 1, false)], elem := 0, kind := none, form := 5, eqs := [], bld := true } := by kernel_rfl
@[simp] theorem ty26 : tyI Tryz.prog 26 = { ok := true, sz := 3, ag := true, bytes := 72, zero := [Value.slice none 0 0, Value.slice none 0 0, Value.slice none 0 0], offs := [(0, 1, false), (1, 1, false), (2, 1, false)], elem := 0, kind := none, form := 5, eqs := [], bld := true } := by kernel_rfl
@[simp] theorem ty27 : tyI Tryz.prog 27 = { ok := true, sz := 1, ag := false, bytes := 24, zero := [Value.slice none 0 0], offs := [], elem := 9, kind := none, form := 2, eqs := [], bld := false } := by kernel_rfl
@[simp] theorem ty28 : tyI Tryz.prog 28 = { ok := true, sz := 1, ag := false, bytes := 24, zero := [Value.slice none 0 0], offs := [], elem := 75, kind := none, form := 2, eqs := [], bld := false } := by kernel_rfl
@[simp] theorem ty29 : tyI Tryz.prog 29 = { ok := true, sz := 2, ag := true, bytes := 48, zero := [Value.slice none 0 0, Value.slice none 0 0], offs := [(0, 1, false), (1, 1, false)], elem := 0, kind := none, form := 5, eqs := [], bld := true } := by kernel_rfl
@[simp] theorem ty30 : tyI Tryz.prog 30 = { ok := true, sz := 2, ag := true, bytes := 48, zero := [Value.slice none 0 0, Value.slice none 0 0], offs := [(0, 1, false), (1, 1, false)], elem := 0, kind := none, form := 5, eqs := [], bld := true } := by kernel_rfl
@[simp] theorem ty31 : tyI Tryz.prog 31 = { ok := true, sz := 1, ag := false, bytes := 24, zero := [Value.slice none 0 0], offs := [], elem := 157, kind := none, form := 2, eqs := [], bld := false } := by kernel_rfl
@[simp] theorem ty32 : tyI Tryz.prog 32 = { ok := true, sz := 4, ag := true, bytes := 80, zero := [Value.slice none 0 0, Value.slice none 0 0, Value.int IntKind.i64 (0), Value.slice none 0 0], offs := [(0, 2, true), (2, 1, false), (3, 1, false)], elem := 0, kind := none, form := 5, eqs := [], bld := true } := by kernel_rfl
@[simp] theorem ty33 : tyI Tryz.prog 33 = { ok := true, sz := 4, ag := true, bytes := 80, zero := [Value.slice none 0 0, Value.slice none 0 0, Value.int IntKind.i64 (0), Value.slice none 0 0], offs := [(0, 2, true), (2, 1, false), (3, 1, false)], elem := 0, kind := none, form := 5, eqs := [], bld := true } := by kernel_rfl
@[simp] theorem ty34 : tyI Tryz.prog 34 = { ok := true, sz := 1, ag := false, bytes := 24, zero := [Value.slice none 0 0], offs := [], elem := 45, kind := none, form := 2, eqs := [], bld := false } := by kernel_rfl
@[simp] theorem ty35 : tyI Tryz.prog 35 = { ok := true, sz := 9, ag := true, bytes := 200, zero := [Value.slice none 0 0, Value.slice none 0 0, Value.slice none 0 0, Value.slice none 0 0, Value.slice none 0 0, Value.int IntKind.i64 (0), Value.slice none 0 0, Value.slice none 0 0, Value.slice none 0 0], offs := [(0, 3, true), (3, 4, true), (7, 1, false), (8, 1, false)], elem := 0, kind := none, form := 5, eqs := [], bld := true } := by kernel_rfl
@[simp] theorem ty36 : tyI Tryz.prog 36 = { ok := true, sz := 9, ag := true, bytes := 200, zero := [Value.slice none 0 0, Value.slice none 0 0, Value.slice none 0 0, Value.slice none 0 0, Value.slice none 0 0, Value.int IntKind.i64 (0), Value.slice none 0 0, Value.slice none 0 0, Value.slice none 0 0], offs := [(0, 3, true), (3, 4, true), (7, 1, false), (8, 1, false)], elem := 0, kind := none, form := 5, eqs := [], bld := true } := by kernel_rfl
@[simp] theorem ty37 : tyI Tryz.prog 37 = { ok := true, sz := 3, ag := true, bytes := 24, zero := [Value.int IntKind.i64 (0), Value.int IntKind.i64 (0), Value.int IntKind.i64 (0)], offs := [(0, 1, false), (1, 1, false), (2, 1, false)], elem := 0, kind := none, form := 5, eqs := [3, 3, 3], bld := true } := by kernel_rfl
@[simp] theorem ty38 : tyI Tryz.prog 38 = { ok := true, sz := 3, ag := true, bytes := 24, zero := [Value.int IntKind.i64 (0), Value.int IntKind.i64 (0), Value.int IntKind.i64 (0)], offs := [(0, 1, false), (1, 1, false), (2, 1, false)], elem := 0, kind := none, form := 5, eqs := [3, 3, 3], bld := true } := by kernel_rfl
@[simp] theorem ty39 : tyI Tryz.prog 39 = { ok := true, sz := 11, ag := true, bytes := 112, zero := [Value.int IntKind.i64 (0), Value.int IntKind.i64 (0), Value.int IntKind.i64 (0), Value.int IntKind.i64 (0), Value.int IntKind.i64 (0), Value.int IntKind.i64 (0), Value.string ⟨#[]⟩, Value.slice none 0 0, Value.int IntKind.i64 (0), Value.int IntKind.i64 (0), Value.int IntKind.i64 (0)], offs := [(0, 1, false), (1, 1, false), (2, 1, false), (3, 3, true), (6, 1, false), (7, 1, false), (8, 1, false), (9, 1, false), (10, 1, false)], elem := 0, kind := none, form := 5, eqs := [], bld := true } := by kernel_rfl
@[simp] theorem ty40 : tyI Tryz.prog 40 = { ok := true, sz := 11, ag := true, bytes := 112, zero := [Value.int IntKind.i64 (0), Value.int IntKind.i64 (0), Value.int IntKind.i64 (0), Value.int IntKind.i64 (0), Value.int IntKind.i64 (0), Value.int IntKind.i64 (0), Value.string ⟨#[]⟩, Value.slice none 0 0, Value.int IntKind.i64 (0), Value.int IntKind.i64 (0), Value.int IntKind.i64 (0)], offs := [(0, 1, false), (1, 1, false), (2, 1, false), (3, 3, true), (6, 1, false), (7, 1, false), (8, 1, false), (9, 1, false), (10, 1, false)], elem := 0, kind := none, form := 5, eqs := [], bld := true } := by kernel_rfl
@[simp] theorem ty41 : tyI Tryz.prog 41 = { ok := true, sz := 1, ag := false, bytes := 8, zero := [Value.int IntKind.i64 (0)], offs := [], elem := 0, kind := some IntKind.i64, form := 3, eqs := [], bld := false } := by kernel_rfl
@[simp] theorem ty42 : tyI Tryz.prog 42 = { ok := false, sz := 1, ag := false, bytes := 0, zero := [Value.tuple { toList := [Value.string ⟨#[]⟩, Value.int IntKind.i64 (0)] }], offs := [], elem := 0, kind := none, form := 0, eqs := [], bld := false } := by kernel_rfl
@[simp] theorem ty43 : tyI Tryz.prog 43 = { ok := true, sz := 1, ag := false, bytes := 8, zero := [Value.nilFunc], offs := [], elem := 0, kind := none, form := 0, eqs := [], bld := false } := by kernel_rfl
@[simp] theorem ty44 : tyI Tryz.prog 44 = { ok := true, sz := 13, ag := true, bytes := 128, zero := [Value.bool false, Value.int IntKind.i64 (0), Value.int IntKind.i64 (0), Value.int IntKind.i64 (0), Value.int IntKind.i64 (0), Value.int IntKind.i64 (0), Value.int IntKind.i64 (0), Value.int IntKind.i64 (0), Value.string ⟨#[]⟩, Value.slice none 0 0, Value.int IntKind.i64 (0), Value.int IntKind.i64 (0), Value.int IntKind.i64 (0)], offs := [(0, 1, false), (1, 1, false), (2, 11, true)], elem := 0, kind := none, form := 5, eqs := [], bld := true } := by kernel_rfl
@[simp] theorem ty45 : tyI Tryz.prog 45 = { ok := true, sz := 13, ag := true, bytes := 128, zero := [Value.bool false, Value.int IntKind.i64 (0), Value.int IntKind.i64 (0), Value.int IntKind.i64 (0), Value.int IntKind.i64 (0), Value.int IntKind.i64 (0), Value.int IntKind.i64 (0), Value.int IntKind.i64 (0), Value.string ⟨#[]⟩, Value.slice none 0 0, Value.int IntKind.i64 (0), Value.int IntKind.i64 (0), Value.int IntKind.i64 (0)], offs := [(0, 1, false), (1, 1, false), (2, 11, true)], elem := 0, kind := none, form := 5, eqs := [], bld := true } := by kernel_rfl
@[simp] theorem ty46 : tyI Tryz.prog 46 = { ok := false, sz := 1, ag := false, bytes := 0, zero := [Value.tuple { toList := [Value.string ⟨#[]⟩, Value.bool false] }], offs := [], elem := 0, kind := none, form := 0, eqs := [], bld := false } := by kernel_rfl
@[simp] theorem ty47 : tyI Tryz.prog 47 = { ok := true, sz := 1, ag := false, bytes := 8, zero := [Value.nilFunc], offs := [], elem := 0, kind := none, form := 0, eqs := [], bld := false } := by kernel_rfl
@[simp] theorem ty48 : tyI Tryz.prog 48 = { ok := true, sz := 1, ag := false, bytes := 8, zero := [Value.nilFunc], offs := [], elem := 0, kind := none, form := 0, eqs := [], bld := false } := by kernel_rfl
@[simp] theorem ty49 : tyI Tryz.prog 49 = { ok := false, sz := 1, ag := false, bytes := 0, zero := [Value.tuple { toList := [Value.agg { toList := [Value.slice none 0 0, Value.slice none 0 0] }, Value.int IntKind.i64 (0), Value.int IntKind.i64 (0)] }], offs := [], elem := 0, kind := none, form := 0, eqs := [], bld := false } := by kernel_rfl
@[simp] theorem ty50 : tyI Tryz.prog 50 = { ok := true, sz := 1, ag := false, bytes := 8, zero := [Value.nilFunc], offs := [], elem := 0, kind := none, form := 0, eqs := [], bld := false } := by kernel_rfl
@[simp] theorem ty51 : tyI Tryz.prog 51 = { ok := true, sz := 1, ag := false, bytes := 8, zero := [Value.nilFunc], offs := [], elem := 0, kind := none, form := 0, eqs := [], bld := false } := by kernel_rfl
@[simp] theorem ty52 : tyI Tryz.prog 52 = { ok := false, sz := 1, ag := false, bytes := 0, zero := [Value.tuple { toList := [Value.agg { toList := [Value.slice none 0 0, Value.slice none 0 0] }, Value.int IntKind.i64 (0)] }], offs := [], elem := 0, kind := none, form := 0, eqs := [], bld := false } := by kernel_rfl
@[simp] theorem ty53 : tyI Tryz.prog 53 = { ok := true, sz := 1, ag := false, bytes := 8, zero := [Value.nilFunc], offs := [], elem := 0, kind := none, form := 0, eqs := [], bld := false } := by kernel_rfl
@[simp] theorem ty54 : tyI Tryz.prog 54 = { ok := false, sz := 1, ag := false, bytes := 0, zero := [Value.tuple { toList := [Value.slice none 0 0, Value.int IntKind.i64 (0), Value.int IntKind.i64 (0)] }], offs := [], elem := 0, kind := none, form := 0, eqs := [], bld := false } := by kernel_rfl
@[simp] theorem ty55 : tyI Tryz.prog 55 = { ok := true, sz := 1, ag := false, bytes := 8, zero := [Value.nilFunc], offs := [], elem := 0, kind := none, form := 0, eqs := [], bld := false } := by kernel_rfl
@[simp] theorem ty56 : tyI Tryz.prog 56 = { ok := true, sz := 1, ag := false, bytes := 8, zero := [Value.nilFunc], offs := [], elem := 0, kind := none, form := 0, eqs := [], bld := false } := by kernel_rfl
@[simp] theorem ty57 : tyI Tryz.prog 57 = { ok := true, sz := 1, ag := false, bytes := 8, zero := [Value.nilFunc], offs := [], elem := 0, kind := none, form := 0, eqs := [], bld := false } := by kernel_rfl
@[simp] theorem ty58 : tyI Tryz.prog 58 = { ok := true, sz := 1, ag := false, bytes := 8, zero := [Value.nilFunc], offs := [], elem := 0, kind := none, form := 0, eqs := [], bld := false } := by kernel_rfl
@[simp] theorem ty59 : tyI Tryz.prog 59 = { ok := true, sz := 1, ag := false, bytes := 8, zero := [Value.nilFunc], offs := [], elem := 0, kind := none, form := 0, eqs := [], bld := false } := by kernel_rfl
@[simp] theorem ty60 : tyI Tryz.prog 60 = { ok := true, sz := 1, ag := false, bytes := 8, zero := [Value.nilFunc], offs := [], elem := 0, kind := none, form := 0, eqs := [], bld := false } := by kernel_rfl
@[simp] theorem ty61 : tyI Tryz.prog 61 = { ok := true, sz := 1, ag := false, bytes := 8, zero := [Value.nilFunc], offs := [], elem := 0, kind := none, form := 0, eqs := [], bld := false } := by kernel_rfl
@[simp] theorem ty62 : tyI Tryz.prog 62 = { ok := true, sz := 1, ag := false, bytes := 8, zero := [Value.nilFunc], offs := [], elem := 0, kind := none, form := 0, eqs := [], bld := false } := by kernel_rfl
@[simp] theorem ty63 : tyI Tryz.prog 63 = { ok := true, sz := 1, ag := false, bytes := 8, zero := [Value.nilFunc], offs := [], elem := 0, kind := none, form := 0, eqs := [], bld := false } := by kernel_rfl
@[simp] theorem ty64 : tyI Tryz.prog 64 = { ok := true, sz := 1, ag := false, bytes := 8, zero := [Value.nilFunc], offs := [], elem := 0, kind := none, form := 0, eqs := [], bld := false } := by kernel_rfl
@[simp] theorem ty65 : tyI Tryz.prog 65 = { ok := true, sz := 1, ag := false, bytes := 8, zero := [Value.nilFunc], offs := [], elem := 0, kind := none, form := 0, eqs := [], bld := false } := by kernel_rfl
@[simp] theorem ty66 : tyI Tryz.prog 66 = { ok := true, sz := 1, ag := false, bytes := 8, zero := [Value.nilFunc], offs := [], elem := 0, kind := none, form := 0, eqs := [], bld := false } := by kernel_rfl
@[simp] theorem ty67 : tyI Tryz.prog 67 = { ok := true, sz := 1, ag := false, bytes := 8, zero := [Value.nilFunc], offs := [], elem := 0, kind := none, form := 0, eqs := [], bld := false } := by kernel_rfl
@[simp] theorem ty68 : tyI Tryz.prog 68 = { ok := true, sz := 1, ag := false, bytes := 8, zero := [Value.nilFunc], offs := [], elem := 0, kind := none, form := 0, eqs := [], bld := false } := by kernel_rfl
@[simp] theorem ty69 : tyI Tryz.prog 69 = { ok := false, sz := 1, ag := false, bytes := 0, zero := [Value.tuple { toList := [Value.agg { toList := [Value.bool false, Value.int IntKind.i64 (0), Value.int IntKind.i64 (0), Value.int IntKind.i64 (0), Value.int IntKind.i64 (0), Value.int IntKind.i64 (0), Value.int IntKind.i64 (0), Value.int IntKind.i64 (0), Value.string ⟨#[]⟩, Value.slice none 0 0, Value.int IntKind.i64 (0), Value.int IntKind.i64 (0), Value.int IntKind.i64 (0)] }, Value.int IntKind.i64 (0), Value.bool false] }], offs := [], elem := 0, kind := none, form := 0, eqs := [], bld := false } := by kernel_rfl
@[simp] theorem ty70 : tyI Tryz.prog 70 = { ok := true, sz := 1, ag := false, bytes := 8, zero := [Value.nilFunc], offs := [], elem := 0, kind := none, form := 0, eqs := [], bld := false } := by kernel_rfl
@[simp] theorem ty71 : tyI Tryz.prog 71 = { ok := true, sz := 1, ag := false, bytes := 8, zero := [Value.nilFunc], offs := [], elem := 0, kind := none, form := 0, eqs := [], bld := false } := by kernel_rfl
@[simp] theorem ty72 : tyI Tryz.prog 72 = { ok := true, sz := 1, ag := false, bytes := 8, zero := [Value.nilFunc], offs := [], elem := 0, kind := none, form := 0, eqs := [], bld := false } := by kernel_rfl
@[simp] theorem ty73 : tyI Tryz.prog 73 = { ok := true, sz := 1, ag := false, bytes := 8, zero := [Value.nilFunc], offs := [], elem := 0, kind := none, form := 0, eqs := [], bld := false } := by kernel_rfl
@[simp] theorem ty74 : tyI Tryz.prog 74 = { ok := true, sz := 2, ag := true, bytes := 24, zero := [Value.int IntKind.i64 (0), Value.string ⟨#[]⟩], offs := [(0, 1, false), (1, 1, false)], elem := 0, kind := none, form := 5, eqs := [3, 1], bld := true } := by kernel_rfl
@[simp] theorem ty75 : tyI Tryz.prog 75 = { ok := true, sz := 2, ag := true, bytes := 24, zero := [Value.int IntKind.i64 (0), Value.string ⟨#[]⟩], offs := [(0, 1, false), (1, 1, false)], elem := 0, kind := none, form := 5, eqs := [3, 1], bld := true } := by kernel_rfl
@[simp] theorem ty76 : tyI Tryz.prog 76 = { ok := true, sz := 1, ag := false, bytes := 8, zero := [Value.nilFunc], offs := [], elem := 0, kind := none, form := 0, eqs := [], bld := false } := by kernel_rfl
@[simp] theorem ty77 : tyI Tryz.prog 77 = { ok := true, sz := 1, ag := false, bytes := 8, zero := [Value.nilFunc], offs := [], elem := 0, kind := none, form := 0, eqs := [], bld := false } := by kernel_rfl
@[simp] theorem ty78 : tyI Tryz.prog 78 = { ok := true, sz := 1, ag := false, bytes := 8, zero := [Value.nilFunc], offs := [], elem := 0, kind := none, form := 0, eqs := [], bld := false } := by kernel_rfl
@[simp] theorem ty79 : tyI Tryz.prog 79 = { ok := true, sz := 1, ag := false, bytes := 8, zero := [Value.nilFunc], offs := [], elem := 0, kind := none, form := 0, eqs := [], bld := false } := by kernel_rfl
@[simp] theorem ty80 : tyI Tryz.prog 80 = { ok := true, sz := 1, ag := false, bytes := 4, zero := [Value.int IntKind.u32 (0)], offs := [], elem := 0, kind := some IntKind.u32, form := 3, eqs := [], bld := false } := by kernel_rfl
@[simp] theorem ty81 : tyI Tryz.prog 81 = { ok := true, sz := 1, ag := false, bytes := 8, zero := [Value.nilFunc], offs := [], elem := 0, kind := none, form := 0, eqs := [], bld := false } := by kernel_rfl
@[simp] theorem ty82 : tyI Tryz.prog 82 = { ok := true, sz := 1, ag := false, bytes := 8, zero := [Value.int IntKind.u64 (0)], offs := [], elem := 0, kind := some IntKind.u64, form := 3, eqs := [], bld := false } := by kernel_rfl
@[simp] theorem ty83 : tyI Tryz.prog 83 = { ok := true, sz := 1, ag := false, bytes := 24, zero := [Value.slice none 0 0], offs := [], elem := 5, kind := none, form := 2, eqs := [], bld := false } := by kernel_rfl
@[simp] theorem ty84 : tyI Tryz.prog 84 = { ok := true, sz := 1, ag := false, bytes := 8, zero := [Value.nilFunc], offs := [], elem := 0, kind := none, form := 0, eqs := [], bld := false } := by kernel_rfl
@[simp] theorem ty85 : tyI Tryz.prog 85 = { ok := true, sz := 1, ag := false, bytes := 8, zero := [Value.nilFunc], offs := [], elem := 0, kind := none, form := 0, eqs := [], bld := false } := by kernel_rfl
@[simp] theorem ty86 : tyI Tryz.prog 86 = { ok := true, sz := 1, ag := false, bytes := 8, zero := [Value.nilFunc], offs := [], elem := 0, kind := none, form := 0, eqs := [], bld := false } := by kernel_rfl
@[simp] theorem ty87 : tyI Tryz.prog 87 = { ok := true, sz := 1, ag := false, bytes := 8, zero := [Value.nilFunc], offs := [], elem := 0, kind := none, form := 0, eqs := [], bld := false } := by kernel_rfl
@[simp] theorem ty88 : tyI Tryz.prog 88 = { ok := false, sz := 1, ag := false, bytes := 0, zero := [Value.tuple { toList := [Value.int IntKind.u64 (0), Value.int IntKind.u64 (0)] }], offs := [], elem := 0, kind := none, form := 0, eqs := [], bld := false } := by kernel_rfl
@[simp] theorem ty89 : tyI Tryz.prog 89 = { ok := true, sz := 1, ag := false, bytes := 8, zero := [Value.nilFunc], offs := [], elem := 0, kind := none, form := 0, eqs := [], bld := false } := by kernel_rfl
@[simp] theorem ty90 : tyI Tryz.prog 90 = { ok := true, sz := 1, ag := false, bytes := 8, zero := [Value.nilFunc], offs := [], elem := 0, kind := none, form := 0, eqs := [], bld := false } := by kernel_rfl
@[simp] theorem ty91 : tyI Tryz.prog 91 = { ok := false, sz := 1, ag := false, bytes := 0, zero := [Value.tuple { toList := [Value.string ⟨#[]⟩, Value.string ⟨#[]⟩, Value.bool false] }], offs := [], elem := 0, kind := none, form := 0, eqs := [], bld := false } := by kernel_rfl
@[simp] theorem ty92 : tyI Tryz.prog 92 = { ok := true, sz := 1, ag := false, bytes := 8, zero := [Value.nilFunc], offs := [], elem := 0, kind := none, form := 0, eqs := [], bld := false } := by kernel_rfl
@[simp] theorem ty93 : tyI Tryz.prog 93 = { ok := false, sz := 1, ag := false, bytes := 0, zero := [Value.tuple { toList := [Value.agg { toList := [Value.bool false, Value.int IntKind.i64 (0), Value.int IntKind.i64 (0), Value.int IntKind.i64 (0), Value.int IntKind.i64 (0), Value.int IntKind.i64 (0), Value.int IntKind.i64 (0), Value.int IntKind.i64 (0), Value.string ⟨#[]⟩, Value.slice none 0 0, Value.int IntKind.i64 (0), Value.int IntKind.i64 (0), Value.int IntKind.i64 (0)] }, Value.bool false] }], offs := [], elem := 0, kind := none, form := 0, eqs := [], bld := false } := by kernel_rfl
@[simp] theorem ty94 : tyI Tryz.prog 94 = { ok := true, sz := 1, ag := false, bytes := 8, zero := [Value.nilFunc], offs := [], elem := 0, kind := none, form := 0, eqs := [], bld := false } := by kernel_rfl
@[simp] theorem ty95 : tyI Tryz.prog 95 = { ok := true, sz := 1, ag := false, bytes := 8, zero := [Value.nilFunc], offs := [], elem := 0, kind := none, form := 0, eqs := [], bld := false } := by kernel_rfl
@[simp] theorem ty96 : tyI Tryz.prog 96 = { ok := true, sz := 1, ag := false, bytes := 8, zero := [Value.nilFunc], offs := [], elem := 0, kind := none, form := 0, eqs := [], bld := false } := by kernel_rfl
@[simp] theorem ty97 : tyI Tryz.prog 97 = { ok := true, sz := 1, ag := false, bytes := 8, zero := [Value.nilFunc], offs := [], elem := 0, kind := none, form := 0, eqs := [], bld := false } := by kernel_rfl
@[simp] theorem ty98 : tyI Tryz.prog 98 = { ok := true, sz := 1, ag := false, bytes := 8, zero := [Value.nilFunc], offs := [], elem := 0, kind := none, form := 0, eqs := [], bld := false } := by kernel_rfl
@[simp] theorem ty99 : tyI Tryz.prog 99 = { ok := true, sz := 1, ag := false, bytes := 8, zero := [Value.nilFunc], offs := [], elem := 0, kind := none, form := 0, eqs := [], bld := false } := by kernel_rfl
@[simp] theorem ty100 : tyI Tryz.prog 100 = { ok := true, sz := 1, ag := false, bytes := 8, zero := [Value.int IntKind.u64 (0)], offs := [], elem := 0, kind := some IntKind.u64, form := 3, eqs := [], bld := false } := by kernel_rfl
@[simp] theorem ty101 : tyI Tryz.prog 101 = { ok := true, sz := 1, ag := false, bytes := 8, zero := [Value.nilFunc], offs := [], elem := 0, kind := none, form := 0, eqs := [], bld := false } := by kernel_rfl
@[simp] theorem ty102 : tyI Tryz.prog 102 = { ok := true, sz := 1, ag := false, bytes := 8, zero := [Value.nilFunc], offs := [], elem := 0, kind := none, form := 0, eqs := [], bld := false } := by kernel_rfl
@[simp] theorem ty103 : tyI Tryz.prog 103 = { ok := false, sz := 1, ag := false, bytes := 0, zero := [Value.tuple { toList := [Value.int IntKind.u32 (0), Value.int IntKind.u32 (0)] }], offs := [], elem := 0, kind := none, form := 0, eqs := [], bld := false } := by kernel_rfl
@[simp] theorem ty104 : tyI Tryz.prog 104 = { ok := true, sz := 1, ag := false, bytes := 8, zero := [Value.nilFunc], offs := [], elem := 0, kind := none, form := 0, eqs := [], bld := false } := by kernel_rfl
@[simp] theorem ty105 : tyI Tryz.prog 105 = { ok := false, sz := 1, ag := false, bytes := 0, zero := [Value.tuple { toList := [Value.int IntKind.u64 (0), Value.int IntKind.u64 (0)] }], offs := [], elem := 0, kind := none, form := 0, eqs := [], bld := false } := by kernel_rfl
@[simp] theorem ty106 : tyI Tryz.prog 106 = { ok := true, sz := 1, ag := false, bytes := 8, zero := [Value.nilFunc], offs := [], elem := 0, kind := none, form := 0, eqs := [], bld := false } := by kernel_rfl
@[simp] theorem ty107 : tyI Tryz.prog 107 = { ok := true, sz := 1, ag := false, bytes := 8, zero := [Value.pointer none], offs := [], elem := 0, kind := none, form := 0, eqs := [], bld := false } := by kernel_rfl
@[simp] theorem ty108 : tyI Tryz.prog 108 = { ok := true, sz := 2, ag := true, bytes := 32, zero := [Value.pointer none, Value.slice none 0 0], offs := [(0, 1, false), (1, 1, false)], elem := 0, kind := none, form := 5, eqs := [], bld := true } := by kernel_rfl
@[simp] theorem ty109 : tyI Tryz.prog 109 = { ok := true, sz := 2, ag := true, bytes := 32, zero := [Value.pointer none, Value.slice none 0 0], offs := [(0, 1, false), (1, 1, false)], elem := 0, kind := none, form := 5, eqs := [], bld := true } := by kernel_rfl
@[simp] theorem ty110 : tyI Tryz.prog 110 = { ok := true, sz := 1, ag := false, bytes := 8, zero := [Value.nilFunc], offs := [], elem := 0, kind := none, form := 0, eqs := [], bld := false } := by kernel_rfl
@[simp] theorem ty111 : tyI Tryz.prog 111 = { ok := true, sz := 1, ag := false, bytes := 16, zero := [Value.nilIface], offs := [], elem := 0, kind := none, form := 0, eqs := [], bld := false } := by kernel_rfl
@[simp] theorem ty112 : tyI Tryz.prog 112 = { ok := true, sz := 1, ag := false, bytes := 16, zero := [Value.nilIface], offs := [], elem := 0, kind := none, form := 0, eqs := [], bld := false } := by kernel_rfl
@[simp] theorem ty113 : tyI Tryz.prog 113 = { ok := false, sz := 1, ag := false, bytes := 0, zero := [Value.tuple { toList := [Value.int IntKind.i64 (0), Value.nilIface] }], offs := [], elem := 0, kind := none, form := 0, eqs := [], bld := false } := by kernel_rfl
@[simp] theorem ty114 : tyI Tryz.prog 114 = { ok := true, sz := 1, ag := false, bytes := 8, zero := [Value.nilFunc], offs := [], elem := 0, kind := none, form := 0, eqs := [], bld := false } := by kernel_rfl
@[simp] theorem ty115 : tyI Tryz.prog 115 = { ok := false, sz := 1, ag := false, bytes := 0, zero := [Value.tuple { toList := [Value.int IntKind.i64 (0), Value.string ⟨#[]⟩, Value.int IntKind.i64 (0)] }], offs := [], elem := 0, kind := none, form := 0, eqs := [], bld := false } := by kernel_rfl
@[simp] theorem ty116 : tyI Tryz.prog 116 = { ok := true, sz := 1, ag := false, bytes := 8, zero := [Value.nilFunc], offs := [], elem := 0, kind := none, form := 0, eqs := [], bld := false } := by kernel_rfl
@[simp] theorem ty117 : tyI Tryz.prog 117 = { ok := false, sz := 1, ag := false, bytes := 0, zero := [Value.tuple { toList := [Value.agg { toList := [Value.int IntKind.i64 (0), Value.int IntKind.i64 (0), Value.int IntKind.i64 (0), Value.int IntKind.i64 (0), Value.int IntKind.i64 (0), Value.int IntKind.i64 (0), Value.string ⟨#[]⟩, Value.slice none 0 0, Value.int IntKind.i64 (0), Value.int IntKind.i64 (0), Value.int IntKind.i64 (0)] }, Value.string ⟨#[]⟩, Value.int IntKind.i64 (0)] }], offs := [], elem := 0, kind := none, form := 0, eqs := [], bld := false } := by kernel_rfl
@[simp] theorem ty118 : tyI Tryz.prog 118 = { ok := true, sz := 1, ag := false, bytes := 8, zero := [Value.nilFunc], offs := [], elem := 0, kind := none, form := 0, eqs := [], bld := false } := by kernel_rfl
@[simp] theorem ty119 : tyI Tryz.prog 119 = { ok := true, sz := 1, ag := false, bytes := 8, zero := [Value.nilFunc], offs := [], elem := 0, kind := none, form := 0, eqs := [], bld := false } := by kernel_rfl
@[simp] theorem ty120 : tyI Tryz.prog 120 = { ok := true, sz := 1, ag := false, bytes := 8, zero := [Value.nilFunc], offs := [], elem := 0, kind := none, form := 0, eqs := [], bld := false } := by kernel_rfl
@[simp] theorem ty121 : tyI Tryz.prog 121 = { ok := true, sz := 1, ag := false, bytes := 8, zero := [Value.nilFunc], offs := [], elem := 0, kind := none, form := 0, eqs := [], bld := false } := by kernel_rfl
@[simp] theorem ty122 : tyI Tryz.prog 122 = { ok := true, sz := 1, ag := false, bytes := 8, zero := [Value.nilFunc], offs := [], elem := 0, kind := none, form := 0, eqs := [], bld := false } := by kernel_rfl
@[simp] theorem ty123 : tyI Tryz.prog 123 = { ok := true, sz := 1, ag := false, bytes := 8, zero := [Value.nilFunc], offs := [], elem := 0, kind := none, form := 0, eqs := [], bld := false } := by kernel_rfl
@[simp] theorem ty124 : tyI Tryz.prog 124 = { ok := true, sz := 1, ag := false, bytes := 8, zero := [Value.pointer none], offs := [], elem := 0, kind := none, form := 0, eqs := [], bld := false } := by kernel_rfl
@[simp] theorem ty125 : tyI Tryz.prog 125 = { ok := true, sz := 1, ag := false, bytes := 8, zero := [Value.pointer none], offs := [], elem := 0, kind := none, form := 0, eqs := [], bld := false } := by kernel_rfl
@[simp] theorem ty126 : tyI Tryz.prog 126 = { ok := true, sz := 2, ag := true, bytes := 24, zero := [Value.string ⟨#[]⟩, Value.bool false], offs := [(0, 1, false), (1, 1, false)], elem := 0, kind := none, form := 5, eqs := [1, 4], bld := true } := by kernel_rfl
@[simp] theorem ty127 : tyI Tryz.prog 127 = { ok := true, sz := 2, ag := true, bytes := 24, zero := [Value.string ⟨#[]⟩, Value.bool false], offs := [(0, 1, false), (1, 1, false)], elem := 0, kind := none, form := 5, eqs := [1, 4], bld := true } := by kernel_rfl
@[simp] theorem ty128 : tyI Tryz.prog 128 = { ok := true, sz := 1, ag := false, bytes := 8, zero := [Value.nilFunc], offs := [], elem := 0, kind := none, form := 0, eqs := [], bld := false } := by kernel_rfl
@[simp] theorem ty129 : tyI Tryz.prog 129 = { ok := true, sz := 1, ag := false, bytes := 8, zero := [Value.nilFunc], offs := [], elem := 0, kind := none, form := 0, eqs := [], bld := false } := by kernel_rfl
@[simp] theorem ty130 : tyI Tryz.prog 130 = { ok := true, sz := 1, ag := false, bytes := 8, zero := [Value.nilFunc], offs := [], elem := 0, kind := none, form := 0, eqs := [], bld := false } := by kernel_rfl
@[simp] theorem ty131 : tyI Tryz.prog 131 = { ok := true, sz := 1, ag := false, bytes := 8, zero := [Value.nilFunc], offs := [], elem := 0, kind := none, form := 0, eqs := [], bld := false } := by kernel_rfl
@[simp] theorem ty132 : tyI Tryz.prog 132 = { ok := true, sz := 1, ag := false, bytes := 8, zero := [Value.nilFunc], offs := [], elem := 0, kind := none, form := 0, eqs := [], bld := false } := by kernel_rfl
@[simp] theorem ty133 : tyI Tryz.prog 133 = { ok := true, sz := 1, ag := false, bytes := 8, zero := [Value.pointer none], offs := [], elem := 0, kind := none, form := 0, eqs := [], bld := false } := by kernel_rfl
@[simp] theorem ty134 : tyI Tryz.prog 134 = { ok := true, sz := 1, ag := false, bytes := 8, zero := [Value.nilFunc], offs := [], elem := 0, kind := none, form := 0, eqs := [], bld := false } := by kernel_rfl
@[simp] theorem ty135 : tyI Tryz.prog 135 = { ok := true, sz := 1, ag := false, bytes := 8, zero := [Value.nilFunc], offs := [], elem := 0, kind := none, form := 0, eqs := [], bld := false } := by kernel_rfl
@[simp] theorem ty136 : tyI Tryz.prog 136 = { ok := true, sz := 1, ag := false, bytes := 8, zero := [Value.nilFunc], offs := [], elem := 0, kind := none, form := 0, eqs := [], bld := false } := by kernel_rfl
@[simp] theorem ty137 : tyI Tryz.prog 137 = { ok := true, sz := 1, ag := false, bytes := 8, zero := [Value.nilFunc], offs := [], elem := 0, kind := none, form := 0, eqs := [], bld := false } := by kernel_rfl
@[simp] theorem ty138 : tyI Tryz.prog 138 = { ok := true, sz := 1, ag := false, bytes := 8, zero := [Value.nilFunc], offs := [], elem := 0, kind := none, form := 0, eqs := [], bld := false } := by kernel_rfl
@[simp] theorem ty139 : tyI Tryz.prog 139 = { ok := false, sz := 1, ag := false, bytes := 0, zero := [Value.tuple { toList := [Value.string ⟨#[]⟩, Value.string ⟨#[]⟩, Value.int IntKind.i64 (0)] }], offs := [], elem := 0, kind := none, form := 0, eqs := [], bld := false } := by kernel_rfl
@[simp] theorem ty140 : tyI Tryz.prog 140 = { ok := true, sz := 1, ag := false, bytes := 8, zero := [Value.nilFunc], offs := [], elem := 0, kind := none, form := 0, eqs := [], bld := false } := by kernel_rfl
@[simp] theorem ty141 : tyI Tryz.prog 141 = { ok := true, sz := 1, ag := false, bytes := 8, zero := [Value.nilFunc], offs := [], elem := 0, kind := none, form := 0, eqs := [], bld := false } := by kernel_rfl
@[simp] theorem ty142 : tyI Tryz.prog 142 = { ok := true, sz := 1, ag := false, bytes := 8, zero := [Value.nilFunc], offs := [], elem := 0, kind := none, form := 0, eqs := [], bld := false } := by kernel_rfl
@[simp] theorem ty143 : tyI Tryz.prog 143 = { ok := true, sz := 1, ag := false, bytes := 8, zero := [Value.nilFunc], offs := [], elem := 0, kind := none, form := 0, eqs := [], bld := false } := by kernel_rfl
@[simp] theorem ty144 : tyI Tryz.prog 144 = { ok := true, sz := 4, ag := true, bytes := 40, zero := [Value.pointer none, Value.pointer none, Value.pointer none, Value.string ⟨#[]⟩], offs := [(0, 1, false), (1, 1, false), (2, 1, false), (3, 1, false)], elem := 0, kind := none, form := 5, eqs := [], bld := true } := by kernel_rfl
@[simp] theorem ty145 : tyI Tryz.prog 145 = { ok := true, sz := 4, ag := true, bytes := 40, zero := [Value.pointer none, Value.pointer none, Value.pointer none, Value.string ⟨#[]⟩], offs := [(0, 1, false), (1, 1, false), (2, 1, false), (3, 1, false)], elem := 0, kind := none, form := 5, eqs := [], bld := true } := by kernel_rfl
@[simp] theorem ty146 : tyI Tryz.prog 146 = { ok := true, sz := 0, ag := true, bytes := 0, zero := [], offs := [], elem := 0, kind := none, form := 0, eqs := [], bld := false } := by kernel_rfl
@[simp] theorem ty147 : tyI Tryz.prog 147 = { ok := true, sz := 0, ag := true, bytes := 0, zero := [], offs := [(0, 0, true)], elem := 0, kind := none, form := 5, eqs := [], bld := true } := by kernel_rfl
@[simp] theorem ty148 : tyI Tryz.prog 148 = { ok := true, sz := 0, ag := true, bytes := 0, zero := [], offs := [(0, 0, true)], elem := 0, kind := none, form := 5, eqs := [], bld := true } := by kernel_rfl
@[simp] theorem ty149 : tyI Tryz.prog 149 = { ok := true, sz := 1, ag := false, bytes := 1, zero := [Value.int IntKind.u8 (0)], offs := [], elem := 0, kind := some IntKind.u8, form := 3, eqs := [], bld := false } := by kernel_rfl
@[simp] theorem ty150 : tyI Tryz.prog 150 = { ok := true, sz := 1, ag := false, bytes := 1, zero := [Value.int IntKind.u8 (0)], offs := [], elem := 0, kind := some IntKind.u8, form := 3, eqs := [], bld := false } := by kernel_rfl
@[simp] theorem ty151 : tyI Tryz.prog 151 = { ok := true, sz := 1, ag := false, bytes := 8, zero := [Value.nilFunc], offs := [], elem := 0, kind := none, form := 0, eqs := [], bld := false } := by kernel_rfl
@[simp] theorem ty152 : tyI Tryz.prog 152 = { ok := true, sz := 1, ag := false, bytes := 4, zero := [Value.int IntKind.i32 (0)], offs := [], elem := 0, kind := some IntKind.i32, form := 3, eqs := [], bld := false } := by kernel_rfl
@[simp] theorem ty153 : tyI Tryz.prog 153 = { ok := true, sz := 1, ag := false, bytes := 4, zero := [Value.int IntKind.i32 (0)], offs := [], elem := 0, kind := some IntKind.i32, form := 3, eqs := [], bld := false } := by kernel_rfl
@[simp] theorem ty154 : tyI Tryz.prog 154 = { ok := true, sz := 11, ag := true, bytes := 48, zero := [Value.int IntKind.u64 (0), Value.int IntKind.u64 (0), Value.int IntKind.u32 (0), Value.int IntKind.u8 (0), Value.int IntKind.u8 (0), Value.int IntKind.u8 (0), Value.int IntKind.u8 (0), Value.nilFunc, Value.pointer none, Value.int IntKind.i32 (0), Value.int IntKind.i32 (0)], offs := [(0, 1, false), (1, 1, false), (2, 1, false), (3, 1, false), (4, 1, false), (5, 1, false), (6, 1, false), (7, 1, false), (8, 1, false), (9, 1, false), (10, 1, false)], elem := 0, kind := none, form := 5, eqs := [], bld := true } := by kernel_rfl
@[simp] theorem ty155 : tyI Tryz.prog 155 = { ok := true, sz := 11, ag := true, bytes := 48, zero := [Value.int IntKind.u64 (0), Value.int IntKind.u64 (0), Value.int IntKind.u32 (0), Value.int IntKind.u8 (0), Value.int IntKind.u8 (0), Value.int IntKind.u8 (0), Value.int IntKind.u8 (0), Value.nilFunc, Value.pointer none, Value.int IntKind.i32 (0), Value.int IntKind.i32 (0)], offs := [(0, 1, false), (1, 1, false), (2, 1, false), (3, 1, false), (4, 1, false), (5, 1, false), (6, 1, false), (7, 1, false), (8, 1, false), (9, 1, false), (10, 1, false)], elem := 0, kind := none, form := 5, eqs := [], bld := true } := by kernel_rfl
@[simp] theorem ty156 : tyI Tryz.prog 156 = { ok := true, sz := 4, ag := true, bytes := 56, zero := [Value.int IntKind.i64 (0), Value.int IntKind.i64 (0), Value.string ⟨#[]⟩, Value.slice none 0 0], offs := [(0, 1, false), (1, 1, false), (2, 1, false), (3, 1, false)], elem := 0, kind := none, form := 5, eqs := [], bld := true } := by kernel_rfl
@[simp] theorem ty157 : tyI Tryz.prog 157 = { ok := true, sz := 4, ag := true, bytes := 56, zero := [Value.int IntKind.i64 (0), Value.int IntKind.i64 (0), Value.string ⟨#[]⟩, Value.slice none 0 0], offs := [(0, 1, false), (1, 1, false), (2, 1, false), (3, 1, false)], elem := 0, kind := none, form := 5, eqs := [], bld := true } := by kernel_rfl

theorem mixed : Tryz.prog.follows .mixedOrders = true := by kernel_rfl

end Go.AE

/- The functions' code without its remarks. Printed by a program of this session. -/
set_option maxRecDepth 100000
namespace Go.AE
open Go Go.Proofs

def s8L0 : SC := (((SC.region 3 [⟨some 5, .move (.tmp 4), none⟩,
  ⟨some 6, .move (.tmp 0), none⟩,
  ⟨some 7, .binOp .lss 3 (.tmp 5) (.tmp 6) 3, none⟩] false).seq (SC.cond (.tmp 7) SC.skip (SC.exit 0))).seq ((SC.block 1 (SC.region 5 [⟨some 10, .fieldAddr 30 (.tmp 3) 0, none⟩,
  ⟨some 11, .load 27 (.tmp 10), none⟩,
  ⟨some 12, .call { callee := .value (.func 13), args := #[], argTypes := #[] }, none⟩,
  ⟨some 13, .buildSlice 27 1 #[(0, .tmp 12)], none⟩,
  ⟨some 14, .call { callee := .builtin .append, args := #[.tmp 11, .tmp 13], argTypes := #[27, 27] }, none⟩,
  ⟨some 15, .fieldAddr 30 (.tmp 3) 0, none⟩,
  ⟨none, .store 27 (.tmp 15) (.tmp 14), none⟩] true)).seq (SC.region 4 [⟨some 8, .move (.tmp 4), none⟩,
  ⟨some 9, .binOp .add 3 (.tmp 8) (.const (.int .i64 1)) 3, none⟩,
  ⟨some 4, .assign (.tmp 9), none⟩] false)))
/-- lectionaryref14.New -/
def s8 : SC := ((SC.region 0 [⟨some 2, .alloc 30, none⟩] false).seq ((SC.region 1 [⟨some 3, .alloc 30, none⟩] false).seq (((SC.region 2 [⟨some 4, .assign (.const (.int .i64 0)), none⟩] false).seq (SC.block 0 (SC.loop s8L0))).seq ((SC.region 6 [⟨some 16, .load 30 (.tmp 3), none⟩,
  ⟨none, .store 30 (.tmp 2) (.tmp 16), none⟩] false).seq SC.ret))))
theorem sl8 : slimK Tryz.f8.body s8 = some (unK s8, true) := by kernel_rfl
theorem ok8 : fnOK calmB Tryz.f8 0 = true := by kernel_rfl

/-- disk.Sync -/
def s9 : SC := ((SC.region 0 [⟨some 1, .box 30 (.tmp 0), none⟩,
  ⟨some 2, .alloc 30, none⟩,
  ⟨some 3, .assign (.const (.int .i64 0)), none⟩] false).seq ((SC.region 1 [⟨some 4, .load 30 (.tmp 1), none⟩,
  ⟨some 5, .buildSlice 24 1 #[(0, .const (.int .i64 1))], none⟩,
  ⟨some 6, .fieldAddr 30 (.tmp 1) 1, none⟩,
  ⟨some 7, .load 28 (.tmp 6), none⟩,
  ⟨some 8, .call { callee := .builtin .len, args := #[.tmp 7], argTypes := #[28] }, none⟩,
  ⟨some 9, .call { callee := .value (.func 24), args := #[.tmp 5, .tmp 8], argTypes := #[24, 3] }, none⟩,
  ⟨some 10, .call { callee := .value (.func 23), args := #[.tmp 4, .tmp 9], argTypes := #[30, 24] }, none⟩,
  ⟨some 11, .extract (.tmp 10) 0, none⟩,
  ⟨some 12, .extract (.tmp 10) 1, none⟩,
  ⟨none, .store 30 (.tmp 2) (.tmp 11), none⟩,
  ⟨some 3, .assign (.tmp 12), none⟩] true).seq SC.ret))
theorem sl9 : slimK Tryz.f9.body s9 = some (unK s9, true) := by kernel_rfl
theorem ok9 : fnOK calmB Tryz.f9 0 = true := by kernel_rfl

def s12L0 : SC := (((SC.region 4 [⟨some 16, .move (.tmp 3), none⟩,
  ⟨some 17, .fieldAddr 30 (.tmp 1) 0, none⟩,
  ⟨some 18, .load 27 (.tmp 17), none⟩,
  ⟨some 19, .call { callee := .builtin .len, args := #[.tmp 18], argTypes := #[27] }, none⟩,
  ⟨some 20, .binOp .lss 3 (.tmp 16) (.tmp 19) 3, none⟩] false).seq (SC.cond (.tmp 20) SC.skip (SC.exit 0))).seq ((SC.block 1 ((SC.region 6 [⟨some 23, .fieldAddr 30 (.tmp 1) 0, none⟩,
  ⟨some 24, .load 27 (.tmp 23), none⟩,
  ⟨some 25, .move (.tmp 3), none⟩,
  ⟨some 26, .indexAddr 27 (.tmp 24) (.tmp 25), none⟩,
  ⟨some 27, .load 9 (.tmp 26), none⟩,
  ⟨some 28, .call { callee := .builtin .len, args := #[.tmp 27], argTypes := #[9] }, none⟩,
  ⟨some 29, .binOp .neq 3 (.tmp 28) (.const (.int .i64 32)) 3, none⟩] false).seq (SC.cond (.tmp 29) ((SC.region 7 [⟨some 2, .assign (.const (.bool false)), none⟩] false).seq SC.ret) SC.skip))).seq (SC.region 5 [⟨some 21, .move (.tmp 3), none⟩,
  ⟨some 22, .binOp .add 3 (.tmp 21) (.const (.int .i64 1)) 3, none⟩,
  ⟨some 3, .assign (.tmp 22), none⟩] false)))
def s12L1 : SC := (((SC.region 9 [⟨some 30, .move (.tmp 4), none⟩,
  ⟨some 31, .fieldAddr 30 (.tmp 1) 1, none⟩,
  ⟨some 32, .load 28 (.tmp 31), none⟩,
  ⟨some 33, .call { callee := .builtin .len, args := #[.tmp 32], argTypes := #[28] }, none⟩,
  ⟨some 34, .binOp .lss 3 (.tmp 30) (.tmp 33) 3, none⟩] false).seq (SC.cond (.tmp 34) SC.skip (SC.exit 2))).seq ((SC.block 3 ((SC.region 11 [⟨some 37, .fieldAddr 30 (.tmp 1) 1, none⟩,
  ⟨some 38, .load 28 (.tmp 37), none⟩,
  ⟨some 39, .move (.tmp 4), none⟩,
  ⟨some 40, .indexAddr 28 (.tmp 38) (.tmp 39), none⟩,
  ⟨some 41, .fieldAddr 75 (.tmp 40) 0, none⟩,
  ⟨some 42, .load 3 (.tmp 41), none⟩,
  ⟨some 43, .fieldAddr 30 (.tmp 1) 0, none⟩,
  ⟨some 44, .load 27 (.tmp 43), none⟩,
  ⟨some 45, .call { callee := .builtin .len, args := #[.tmp 44], argTypes := #[27] }, none⟩,
  ⟨some 46, .binOp .sub 3 (.tmp 45) (.const (.int .i64 1)) 3, none⟩,
  ⟨some 47, .call { callee := .value (.func 28), args := #[.tmp 42, .tmp 46], argTypes := #[3, 3] }, none⟩,
  ⟨some 48, .unOp .not 4 (.tmp 47), none⟩,
  ⟨some 49, .move (.tmp 48), none⟩,
  ⟨some 50, .fieldAddr 30 (.tmp 1) 1, some (some 49, false)⟩,
  ⟨some 51, .load 28 (.tmp 50), some (some 49, false)⟩,
  ⟨some 52, .move (.tmp 4), some (some 49, false)⟩,
  ⟨some 53, .indexAddr 28 (.tmp 51) (.tmp 52), some (some 49, false)⟩,
  ⟨some 54, .fieldAddr 75 (.tmp 53) 1, some (some 49, false)⟩,
  ⟨some 55, .load 9 (.tmp 54), some (some 49, false)⟩,
  ⟨some 56, .call { callee := .builtin .len, args := #[.tmp 55], argTypes := #[9] }, some (some 49, false)⟩,
  ⟨some 57, .binOp .neq 3 (.tmp 56) (.const (.int .i64 32)) 3, some (some 49, false)⟩,
  ⟨some 58, .pick (.tmp 49) (.const (.bool true)) (.tmp 57), none⟩] true).seq (SC.cond (.tmp 58) ((SC.region 12 [⟨some 2, .assign (.const (.bool false)), none⟩] false).seq SC.ret) SC.skip))).seq (SC.region 10 [⟨some 35, .move (.tmp 4), none⟩,
  ⟨some 36, .binOp .add 3 (.tmp 35) (.const (.int .i64 1)) 3, none⟩,
  ⟨some 4, .assign (.tmp 36), none⟩] false)))
/-- lectionaryref14.Disk -/
def s12 : SC := ((SC.region 0 [⟨some 1, .box 30 (.tmp 0), none⟩,
  ⟨some 2, .assign (.const (.bool false)), none⟩] false).seq (((SC.region 1 [⟨some 5, .fieldAddr 30 (.tmp 1) 0, none⟩,
  ⟨some 6, .load 27 (.tmp 5), none⟩,
  ⟨some 7, .call { callee := .builtin .len, args := #[.tmp 6], argTypes := #[27] }, none⟩,
  ⟨some 8, .call { callee := .value (.func 27), args := #[.tmp 7, .const (.int .i64 1), .const (.int .i64 400)], argTypes := #[3, 3, 3] }, none⟩,
  ⟨some 9, .unOp .not 4 (.tmp 8), none⟩,
  ⟨some 10, .move (.tmp 9), none⟩,
  ⟨some 11, .fieldAddr 30 (.tmp 1) 1, some (some 10, false)⟩,
  ⟨some 12, .load 28 (.tmp 11), some (some 10, false)⟩,
  ⟨some 13, .call { callee := .builtin .len, args := #[.tmp 12], argTypes := #[28] }, some (some 10, false)⟩,
  ⟨some 14, .binOp .gtr 3 (.tmp 13) (.const (.int .i64 400)) 3, some (some 10, false)⟩,
  ⟨some 15, .pick (.tmp 10) (.const (.bool true)) (.tmp 14), none⟩] false).seq (SC.cond (.tmp 15) ((SC.region 2 [⟨some 2, .assign (.const (.bool false)), none⟩] false).seq SC.ret) SC.skip)).seq (((SC.region 3 [⟨some 3, .assign (.const (.int .i64 0)), none⟩] false).seq (SC.block 0 (SC.loop s12L0))).seq (((SC.region 8 [⟨some 4, .assign (.const (.int .i64 0)), none⟩] false).seq (SC.block 2 (SC.loop s12L1))).seq ((SC.region 13 [⟨some 2, .assign (.const (.bool true)), none⟩] false).seq SC.ret)))))
theorem sl12 : slimK Tryz.f12.body s12 = some (unK s12, true) := by kernel_rfl
theorem ok12 : fnOK calmB Tryz.f12 0 = true := by kernel_rfl

/-- lectionaryref14.Blank -/
def s13 : SC := ((SC.region 0 [⟨some 0, .assign (.const (.string { data := #[] })), none⟩] false).seq ((SC.region 1 [⟨some 1, .call { callee := .value (.func 20), args := #[.const (.int .i64 32)], argTypes := #[3] }, none⟩,
  ⟨some 0, .assign (.tmp 1), none⟩] false).seq SC.ret))
theorem sl13 : slimK Tryz.f13.body s13 = some (unK s13, true) := by kernel_rfl
theorem ok13 : fnOK calmB Tryz.f13 0 = true := by kernel_rfl

/-- lectionaryref0.CopyDisk -/
def s14 : SC := ((SC.region 0 [⟨some 1, .box 30 (.tmp 0), none⟩,
  ⟨some 2, .alloc 30, none⟩] false).seq ((SC.region 1 [⟨some 4, .load 30 (.tmp 1), none⟩,
  ⟨some 3, .alloc 30, none⟩,
  ⟨none, .store 30 (.tmp 3) (.tmp 4), none⟩] false).seq ((SC.region 2 [⟨some 5, .fieldAddr 30 (.tmp 1) 0, none⟩,
  ⟨some 6, .load 27 (.tmp 5), none⟩,
  ⟨some 7, .call { callee := .value (.func 29), args := #[.tmp 6], argTypes := #[27] }, none⟩,
  ⟨some 8, .fieldAddr 30 (.tmp 3) 0, none⟩,
  ⟨none, .store 27 (.tmp 8) (.tmp 7), none⟩] false).seq ((SC.region 3 [⟨some 9, .fieldAddr 30 (.tmp 1) 1, none⟩,
  ⟨some 10, .load 28 (.tmp 9), none⟩,
  ⟨some 11, .call { callee := .value (.func 30), args := #[.tmp 10], argTypes := #[28] }, none⟩,
  ⟨some 12, .fieldAddr 30 (.tmp 3) 1, none⟩,
  ⟨none, .store 28 (.tmp 12) (.tmp 11), none⟩] false).seq ((SC.region 4 [⟨some 13, .load 30 (.tmp 3), none⟩,
  ⟨none, .store 30 (.tmp 2) (.tmp 13), none⟩] false).seq SC.ret)))))
theorem sl14 : slimK Tryz.f14.body s14 = some (unK s14, true) := by kernel_rfl
theorem ok14 : fnOK calmB Tryz.f14 0 = true := by kernel_rfl

/-- lectionaryref0.Zeros -/
def s20 : SC := ((SC.region 0 [⟨some 2, .assign (.const (.string { data := #[] })), none⟩] false).seq ((SC.region 1 [⟨some 3, .move (.tmp 0), none⟩,
  ⟨some 4, .makeSlice 83 (.tmp 3) (.tmp 3), none⟩,
  ⟨some 5, .convert 83 9 (.tmp 4), none⟩,
  ⟨some 2, .assign (.tmp 5), none⟩] false).seq SC.ret))
theorem sl20 : slimK Tryz.f20.body s20 = some (unK s20, true) := by kernel_rfl
theorem ok20 : fnOK calmB Tryz.f20 0 = true := by kernel_rfl

/-- disk.May -/
def s21 : SC := ((SC.region 0 [⟨some 1, .box 30 (.tmp 0), none⟩,
  ⟨some 2, .assign (.const (.bool false)), none⟩] false).seq (((SC.region 1 [⟨some 3, .fieldAddr 30 (.tmp 1) 0, none⟩,
  ⟨some 4, .load 27 (.tmp 3), none⟩,
  ⟨some 5, .call { callee := .builtin .len, args := #[.tmp 4], argTypes := #[27] }, none⟩,
  ⟨some 6, .binOp .lss 3 (.tmp 5) (.const (.int .i64 1)) 3, none⟩,
  ⟨some 7, .move (.tmp 6), none⟩,
  ⟨some 8, .fieldAddr 30 (.tmp 1) 0, some (some 7, false)⟩,
  ⟨some 9, .load 27 (.tmp 8), some (some 7, false)⟩,
  ⟨some 10, .call { callee := .builtin .len, args := #[.tmp 9], argTypes := #[27] }, some (some 7, false)⟩,
  ⟨some 11, .binOp .gtr 3 (.tmp 10) (.const (.int .i64 400)) 3, some (some 7, false)⟩,
  ⟨some 12, .pick (.tmp 7) (.const (.bool true)) (.tmp 11), none⟩,
  ⟨some 13, .move (.tmp 12), none⟩,
  ⟨some 14, .fieldAddr 30 (.tmp 1) 1, some (some 13, false)⟩,
  ⟨some 15, .load 28 (.tmp 14), some (some 13, false)⟩,
  ⟨some 16, .call { callee := .builtin .len, args := #[.tmp 15], argTypes := #[28] }, some (some 13, false)⟩,
  ⟨some 17, .binOp .gtr 3 (.tmp 16) (.const (.int .i64 400)) 3, some (some 13, false)⟩,
  ⟨some 18, .pick (.tmp 13) (.const (.bool true)) (.tmp 17), none⟩] false).seq (SC.cond (.tmp 18) ((SC.region 2 [⟨some 2, .assign (.const (.bool false)), none⟩] false).seq SC.ret) SC.skip)).seq (((SC.region 3 [⟨some 19, .fieldAddr 30 (.tmp 1) 0, none⟩,
  ⟨some 20, .load 27 (.tmp 19), none⟩,
  ⟨some 21, .call { callee := .value (.func 40), args := #[.tmp 20, .func 41], argTypes := #[27, 85] }, none⟩] false).seq (SC.cond (.tmp 21) ((SC.region 4 [⟨some 2, .assign (.const (.bool false)), none⟩] false).seq SC.ret) SC.skip)).seq ((SC.region 5 [⟨some 22, .fieldAddr 30 (.tmp 1) 1, none⟩,
  ⟨some 23, .load 28 (.tmp 22), none⟩,
  ⟨some 24, .makeFunc (Fn.func 44) #[] #[.tmp 1], none⟩,
  ⟨some 25, .call { callee := .value (.func 43), args := #[.tmp 23, .tmp 24], argTypes := #[28, 87] }, none⟩,
  ⟨some 26, .unOp .not 4 (.tmp 25), none⟩,
  ⟨some 2, .assign (.tmp 26), none⟩] false).seq SC.ret))))
theorem sl21 : slimK Tryz.f21.body s21 = some (unK s21, true) := by kernel_rfl
theorem ok21 : fnOK calmB Tryz.f21 0 = true := by kernel_rfl

/-- disk.Put -/
def s22 : SC := ((SC.region 0 [⟨some 3, .box 30 (.tmp 0), none⟩,
  ⟨some 6, .alloc 30, none⟩,
  ⟨some 7, .assign (.const (.int .i64 0)), none⟩] false).seq ((SC.block 0 ((SC.region 1 [⟨some 9, .load 30 (.tmp 3), none⟩,
  ⟨some 10, .call { callee := .value (.func 21), args := #[.tmp 9], argTypes := #[30] }, none⟩,
  ⟨some 11, .unOp .not 4 (.tmp 10), none⟩,
  ⟨some 12, .move (.tmp 11), none⟩,
  ⟨some 13, .move (.tmp 2), some (some 12, false)⟩,
  ⟨some 14, .call { callee := .value (.func 42), args := #[.tmp 13], argTypes := #[9] }, some (some 12, false)⟩,
  ⟨some 15, .unOp .not 4 (.tmp 14), some (some 12, false)⟩,
  ⟨some 16, .pick (.tmp 12) (.const (.bool true)) (.tmp 15), none⟩,
  ⟨some 8, .assign (.tmp 16), none⟩] false).seq (SC.cond (.tmp 8) ((SC.region 2 [⟨some 17, .build 30 #[], none⟩,
  ⟨none, .store 30 (.tmp 6) (.tmp 17), none⟩,
  ⟨some 7, .assign (.const (.int .i64 1)), none⟩] false).seq SC.ret) ((SC.region 3 [⟨some 19, .move (.tmp 1), none⟩,
  ⟨some 20, .binOp .lss 3 (.tmp 19) (.const (.int .i64 0)) 3, none⟩,
  ⟨some 21, .move (.tmp 20), none⟩,
  ⟨some 22, .move (.tmp 1), some (some 21, false)⟩,
  ⟨some 23, .fieldAddr 30 (.tmp 3) 0, some (some 21, false)⟩,
  ⟨some 24, .load 27 (.tmp 23), some (some 21, false)⟩,
  ⟨some 25, .call { callee := .builtin .len, args := #[.tmp 24], argTypes := #[27] }, some (some 21, false)⟩,
  ⟨some 26, .binOp .geq 3 (.tmp 22) (.tmp 25) 3, some (some 21, false)⟩,
  ⟨some 27, .pick (.tmp 21) (.const (.bool true)) (.tmp 26), none⟩,
  ⟨some 18, .assign (.tmp 27), none⟩] false).seq (SC.cond (.tmp 18) ((SC.region 4 [⟨some 28, .build 30 #[], none⟩,
  ⟨none, .store 30 (.tmp 6) (.tmp 28), none⟩,
  ⟨some 7, .assign (.const (.int .i64 3)), none⟩] false).seq SC.ret) ((SC.region 5 [⟨some 30, .fieldAddr 30 (.tmp 3) 1, none⟩,
  ⟨some 31, .load 28 (.tmp 30), none⟩,
  ⟨some 32, .call { callee := .builtin .len, args := #[.tmp 31], argTypes := #[28] }, none⟩,
  ⟨some 33, .binOp .geq 3 (.tmp 32) (.const (.int .i64 400)) 3, none⟩,
  ⟨some 29, .assign (.tmp 33), none⟩] false).seq (SC.cond (.tmp 29) ((SC.region 6 [⟨some 34, .build 30 #[], none⟩,
  ⟨none, .store 30 (.tmp 6) (.tmp 34), none⟩,
  ⟨some 7, .assign (.const (.int .i64 6)), none⟩] false).seq SC.ret) SC.skip))))))).seq ((SC.region 7 [⟨some 35, .load 30 (.tmp 3), none⟩,
  ⟨some 36, .call { callee := .value (.func 45), args := #[.tmp 35], argTypes := #[30] }, none⟩,
  ⟨none, .store 30 (.tmp 3) (.tmp 36), none⟩] false).seq ((SC.region 8 [⟨some 37, .fieldAddr 30 (.tmp 3) 1, none⟩,
  ⟨some 38, .load 28 (.tmp 37), none⟩,
  ⟨some 39, .move (.tmp 1), none⟩,
  ⟨some 40, .move (.tmp 2), none⟩,
  ⟨some 41, .build 75 #[(0, .tmp 39), (1, .tmp 40)], none⟩,
  ⟨some 42, .buildSlice 28 1 #[(0, .tmp 41)], none⟩,
  ⟨some 43, .call { callee := .builtin .append, args := #[.tmp 38, .tmp 42], argTypes := #[28, 28] }, none⟩,
  ⟨some 44, .fieldAddr 30 (.tmp 3) 1, none⟩,
  ⟨none, .store 28 (.tmp 44) (.tmp 43), none⟩] false).seq ((SC.region 9 [⟨some 45, .load 30 (.tmp 3), none⟩,
  ⟨none, .store 30 (.tmp 6) (.tmp 45), none⟩,
  ⟨some 7, .assign (.const (.int .i64 0)), none⟩] false).seq SC.ret)))))
theorem sl22 : slimK Tryz.f22.body s22 = some (unK s22, true) := by kernel_rfl
theorem ok22 : fnOK calmB Tryz.f22 0 = true := by kernel_rfl

def s23L0 : SC := ((SC.region 5 [⟨some 21, .binOp .lss 3 (.tmp 20) (.tmp 19) 3, none⟩] false).seq ((SC.cond (.tmp 21) SC.skip (SC.exit 0)).seq ((SC.block 1 ((SC.region 6 [⟨some 22, .move (.tmp 20), none⟩,
  ⟨some 23, .indexAddr 28 (.tmp 18) (.tmp 20), none⟩,
  ⟨some 24, .load 75 (.tmp 23), none⟩,
  ⟨some 8, .alloc 75, none⟩,
  ⟨some 7, .assign (.tmp 22), none⟩,
  ⟨none, .store 75 (.tmp 8) (.tmp 24), none⟩] false).seq (((SC.region 7 [⟨some 25, .move (.tmp 7), none⟩,
  ⟨some 26, .move (.tmp 1), none⟩,
  ⟨some 27, .call { callee := .builtin .len, args := #[.tmp 26], argTypes := #[24] }, none⟩,
  ⟨some 28, .binOp .geq 3 (.tmp 25) (.tmp 27) 3, none⟩,
  ⟨some 29, .move (.tmp 28), none⟩,
  ⟨some 30, .move (.tmp 1), some (some 29, false)⟩,
  ⟨some 31, .move (.tmp 7), some (some 29, false)⟩,
  ⟨some 32, .indexAddr 24 (.tmp 30) (.tmp 31), some (some 29, false)⟩,
  ⟨some 33, .load 3 (.tmp 32), some (some 29, false)⟩,
  ⟨some 34, .binOp .lss 3 (.tmp 33) (.const (.int .i64 0)) 3, some (some 29, false)⟩,
  ⟨some 35, .pick (.tmp 29) (.const (.bool true)) (.tmp 34), none⟩] false).seq (SC.cond (.tmp 35) (SC.exit 1) SC.skip)).seq ((SC.region 8 [⟨some 36, .move (.tmp 1), none⟩,
  ⟨some 37, .move (.tmp 7), none⟩,
  ⟨some 38, .indexAddr 24 (.tmp 36) (.tmp 37), none⟩,
  ⟨some 39, .load 3 (.tmp 38), none⟩,
  ⟨some 40, .binOp .rem 3 (.tmp 39) (.const (.int .i64 3)) 3, none⟩] false).seq (SC.block 2 ((SC.region 9 [⟨some 42, .binOp .eql 3 (.tmp 40) (.const (.int .i64 1)) 3, none⟩,
  ⟨some 41, .assign (.tmp 42), none⟩] false).seq (SC.cond (.tmp 41) (SC.region 10 [⟨some 43, .fieldAddr 30 (.tmp 6) 0, none⟩,
  ⟨some 44, .load 27 (.tmp 43), none⟩,
  ⟨some 45, .fieldAddr 75 (.tmp 8) 0, none⟩,
  ⟨some 46, .load 3 (.tmp 45), none⟩,
  ⟨some 47, .fieldAddr 75 (.tmp 8) 1, none⟩,
  ⟨some 48, .load 9 (.tmp 47), none⟩,
  ⟨some 49, .indexAddr 27 (.tmp 44) (.tmp 46), none⟩,
  ⟨none, .store 9 (.tmp 49) (.tmp 48), none⟩] false) ((SC.region 11 [⟨some 51, .binOp .eql 3 (.tmp 40) (.const (.int .i64 2)) 3, none⟩,
  ⟨some 50, .assign (.tmp 51), none⟩] false).seq (SC.cond (.tmp 50) (SC.region 12 [⟨some 52, .fieldAddr 30 (.tmp 6) 0, none⟩,
  ⟨some 53, .load 27 (.tmp 52), none⟩,
  ⟨some 54, .fieldAddr 75 (.tmp 8) 0, none⟩,
  ⟨some 55, .load 3 (.tmp 54), none⟩,
  ⟨some 56, .fieldAddr 75 (.tmp 8) 1, none⟩,
  ⟨some 57, .load 9 (.tmp 56), none⟩,
  ⟨some 58, .slice 9 (.tmp 57) none (some (.const (.int .i64 16))) none, none⟩,
  ⟨some 59, .fieldAddr 30 (.tmp 6) 0, none⟩,
  ⟨some 60, .load 27 (.tmp 59), none⟩,
  ⟨some 61, .fieldAddr 75 (.tmp 8) 0, none⟩,
  ⟨some 62, .load 3 (.tmp 61), none⟩,
  ⟨some 63, .indexAddr 27 (.tmp 60) (.tmp 62), none⟩,
  ⟨some 64, .load 9 (.tmp 63), none⟩,
  ⟨some 65, .slice 9 (.tmp 64) (some (.const (.int .i64 16))) none none, none⟩,
  ⟨some 66, .binOp .add 9 (.tmp 58) (.tmp 65) 9, none⟩,
  ⟨some 67, .indexAddr 27 (.tmp 53) (.tmp 55), none⟩,
  ⟨none, .store 9 (.tmp 67) (.tmp 66), none⟩] true) SC.skip))))))))).seq (SC.region 13 [⟨some 68, .binOp .add 3 (.tmp 20) (.const (.int .i64 1)) 3, none⟩,
  ⟨some 20, .move (.tmp 68), none⟩] false))))
/-- disk.Crash -/
def s23 : SC := ((SC.region 0 [⟨some 2, .box 30 (.tmp 0), none⟩,
  ⟨some 4, .alloc 30, none⟩,
  ⟨some 5, .assign (.const (.int .i64 0)), none⟩] false).seq (((SC.region 1 [⟨some 9, .load 30 (.tmp 2), none⟩,
  ⟨some 10, .call { callee := .value (.func 21), args := #[.tmp 9], argTypes := #[30] }, none⟩,
  ⟨some 11, .unOp .not 4 (.tmp 10), none⟩] false).seq (SC.cond (.tmp 11) ((SC.region 2 [⟨some 12, .build 30 #[], none⟩,
  ⟨none, .store 30 (.tmp 4) (.tmp 12), none⟩,
  ⟨some 5, .assign (.const (.int .i64 1)), none⟩] false).seq SC.ret) SC.skip)).seq ((SC.region 3 [⟨some 13, .fieldAddr 30 (.tmp 2) 0, none⟩,
  ⟨some 14, .load 27 (.tmp 13), none⟩,
  ⟨some 15, .call { callee := .value (.func 46), args := #[.tmp 14], argTypes := #[27] }, none⟩,
  ⟨some 16, .build 30 #[(0, .tmp 15)], none⟩,
  ⟨some 6, .alloc 30, none⟩,
  ⟨none, .store 30 (.tmp 6) (.tmp 16), none⟩] false).seq (((SC.region 4 [⟨some 17, .fieldAddr 30 (.tmp 2) 1, none⟩,
  ⟨some 18, .load 28 (.tmp 17), none⟩,
  ⟨some 19, .call { callee := .builtin .len, args := #[.tmp 18], argTypes := #[28] }, none⟩,
  ⟨some 20, .move (.const (.int .i64 0)), none⟩] false).seq (SC.block 0 (SC.loop s23L0))).seq ((SC.region 14 [⟨some 69, .load 30 (.tmp 6), none⟩,
  ⟨none, .store 30 (.tmp 4) (.tmp 69), none⟩,
  ⟨some 5, .assign (.const (.int .i64 0)), none⟩] false).seq SC.ret)))))
theorem sl23 : slimK Tryz.f23.body s23 = some (unK s23, true) := by kernel_rfl
theorem ok23 : fnOK calmB Tryz.f23 0 = true := by kernel_rfl

def s24L0 : SC := (((SC.region 8 [⟨some 34, .move (.tmp 8), none⟩,
  ⟨some 35, .move (.tmp 7), none⟩,
  ⟨some 36, .call { callee := .builtin .len, args := #[.tmp 35], argTypes := #[24] }, none⟩,
  ⟨some 37, .binOp .lss 3 (.tmp 34) (.tmp 36) 3, none⟩] false).seq (SC.cond (.tmp 37) SC.skip (SC.exit 0))).seq (SC.block 1 (SC.region 9 [⟨some 38, .move (.tmp 8), none⟩,
  ⟨some 39, .move (.tmp 7), none⟩,
  ⟨some 40, .move (.tmp 8), none⟩,
  ⟨some 41, .slice 24 (.tmp 39) (some (.tmp 40)) none none, none⟩,
  ⟨some 42, .move (.tmp 7), none⟩,
  ⟨some 43, .move (.tmp 8), none⟩,
  ⟨some 44, .slice 24 (.tmp 42) none (some (.tmp 43)) none, none⟩,
  ⟨some 45, .call { callee := .builtin .copy, args := #[.tmp 41, .tmp 44], argTypes := #[24, 24] }, none⟩,
  ⟨some 46, .binOp .add 3 (.tmp 38) (.tmp 45) 3, none⟩,
  ⟨some 8, .assign (.tmp 46), none⟩] true)))
/-- slices.Repeat[[]int,int] -/
def s24 : SC := ((SC.region 0 [⟨some 4, .assign (.const (.slice none 0 0)), none⟩] false).seq (((SC.region 1 [⟨some 9, .move (.tmp 1), none⟩,
  ⟨some 10, .binOp .lss 3 (.tmp 9) (.const (.int .i64 0)) 3, none⟩] false).seq (SC.cond (.tmp 10) (SC.region 2 [⟨some 11, .makeInterface 9 (.const (.string { data := #[99, 97, 110, 110, 111, 116, 32, 98, 101, 32, 110, 101, 103, 97, 116, 105, 118, 101] })), none⟩,
  ⟨none, .panic (.tmp 11), none⟩] false) SC.skip)).seq ((SC.region 3 [⟨some 13, .move (.tmp 0), none⟩,
  ⟨some 14, .call { callee := .builtin .len, args := #[.tmp 13], argTypes := #[24] }, none⟩,
  ⟨some 15, .convert 3 82 (.tmp 14), none⟩,
  ⟨some 16, .move (.tmp 1), none⟩,
  ⟨some 17, .convert 3 82 (.tmp 16), none⟩,
  ⟨some 18, .call { callee := .value (.func 47), args := #[.tmp 15, .tmp 17], argTypes := #[82, 82] }, none⟩,
  ⟨some 12, .move (.tmp 18), none⟩,
  ⟨some 19, .extract (.tmp 12) 0, none⟩,
  ⟨some 20, .extract (.tmp 12) 1, none⟩,
  ⟨some 5, .assign (.tmp 19), none⟩,
  ⟨some 6, .assign (.tmp 20), none⟩] false).seq (((SC.region 4 [⟨some 21, .move (.tmp 5), none⟩,
  ⟨some 22, .binOp .gtr 82 (.tmp 21) (.const (.int .u64 0)) 82, none⟩,
  ⟨some 23, .move (.tmp 22), none⟩,
  ⟨some 24, .move (.tmp 6), some (some 23, false)⟩,
  ⟨some 25, .binOp .gtr 82 (.tmp 24) (.const (.int .u64 9223372036854775807)) 82, some (some 23, false)⟩,
  ⟨some 26, .pick (.tmp 23) (.const (.bool true)) (.tmp 25), none⟩] false).seq (SC.cond (.tmp 26) (SC.region 5 [⟨some 27, .makeInterface 9 (.const (.string { data := #[116, 104, 101, 32, 114, 101, 115, 117, 108, 116, 32, 111, 102, 32, 40, 108, 101, 110, 40, 120, 41, 32, 42, 32, 99, 111, 117, 110, 116, 41, 32, 111, 118, 101, 114, 102, 108, 111, 119, 115] })), none⟩,
  ⟨none, .panic (.tmp 27), none⟩] false) SC.skip)).seq ((SC.region 6 [⟨some 28, .move (.tmp 6), none⟩,
  ⟨some 29, .convert 82 3 (.tmp 28), none⟩,
  ⟨some 30, .makeSlice 24 (.tmp 29) (.tmp 29), none⟩,
  ⟨some 7, .assign (.tmp 30), none⟩] false).seq ((SC.region 7 [⟨some 31, .move (.tmp 7), none⟩,
  ⟨some 32, .move (.tmp 0), none⟩,
  ⟨some 33, .call { callee := .builtin .copy, args := #[.tmp 31, .tmp 32], argTypes := #[24, 24] }, none⟩,
  ⟨some 8, .assign (.tmp 33), none⟩] false).seq ((SC.block 0 (SC.loop s24L0)).seq ((SC.region 10 [⟨some 47, .move (.tmp 7), none⟩,
  ⟨some 4, .assign (.tmp 47), none⟩] false).seq SC.ret))))))))
theorem sl24 : slimK Tryz.f24.body s24 = some (unK s24, true) := by kernel_rfl
theorem ok24 : fnOK calmB Tryz.f24 0 = true := by kernel_rfl

/-- lectionaryref0.Between -/
def s27 : SC := ((SC.region 0 [⟨some 6, .assign (.const (.bool false)), none⟩] false).seq ((SC.region 1 [⟨some 7, .move (.tmp 0), none⟩,
  ⟨some 8, .move (.tmp 1), none⟩,
  ⟨some 9, .binOp .geq 3 (.tmp 7) (.tmp 8) 3, none⟩,
  ⟨some 10, .move (.tmp 9), none⟩,
  ⟨some 11, .move (.tmp 0), some (some 10, true)⟩,
  ⟨some 12, .move (.tmp 2), some (some 10, true)⟩,
  ⟨some 13, .binOp .leq 3 (.tmp 11) (.tmp 12) 3, some (some 10, true)⟩,
  ⟨some 14, .pick (.tmp 10) (.tmp 13) (.const (.bool false)), none⟩,
  ⟨some 6, .assign (.tmp 14), none⟩] false).seq SC.ret))
theorem sl27 : slimK Tryz.f27.body s27 = some (unK s27, true) := by kernel_rfl
theorem ok27 : fnOK calmB Tryz.f27 0 = true := by kernel_rfl

/-- lectionaryref0.Num -/
def s28 : SC := ((SC.region 0 [⟨some 4, .assign (.const (.bool false)), none⟩] false).seq ((SC.region 1 [⟨some 5, .move (.tmp 0), none⟩,
  ⟨some 6, .binOp .geq 3 (.tmp 5) (.const (.int .i64 0)) 3, none⟩,
  ⟨some 7, .move (.tmp 6), none⟩,
  ⟨some 8, .move (.tmp 0), some (some 7, true)⟩,
  ⟨some 9, .move (.tmp 1), some (some 7, true)⟩,
  ⟨some 10, .binOp .leq 3 (.tmp 8) (.tmp 9) 3, some (some 7, true)⟩,
  ⟨some 11, .pick (.tmp 7) (.tmp 10) (.const (.bool false)), none⟩,
  ⟨some 4, .assign (.tmp 11), none⟩] false).seq SC.ret))
theorem sl28 : slimK Tryz.f28.body s28 = some (unK s28, true) := by kernel_rfl
theorem ok28 : fnOK calmB Tryz.f28 0 = true := by kernel_rfl

def s29L0 : SC := (((SC.region 3 [⟨some 5, .move (.tmp 4), none⟩,
  ⟨some 6, .move (.tmp 0), none⟩,
  ⟨some 7, .call { callee := .builtin .len, args := #[.tmp 6], argTypes := #[27] }, none⟩,
  ⟨some 8, .binOp .lss 3 (.tmp 5) (.tmp 7) 3, none⟩] false).seq (SC.cond (.tmp 8) SC.skip (SC.exit 0))).seq ((SC.block 1 (SC.region 5 [⟨some 11, .move (.tmp 3), none⟩,
  ⟨some 12, .move (.tmp 0), none⟩,
  ⟨some 13, .move (.tmp 4), none⟩,
  ⟨some 14, .indexAddr 27 (.tmp 12) (.tmp 13), none⟩,
  ⟨some 15, .load 9 (.tmp 14), none⟩,
  ⟨some 16, .buildSlice 27 1 #[(0, .tmp 15)], none⟩,
  ⟨some 17, .call { callee := .builtin .append, args := #[.tmp 11, .tmp 16], argTypes := #[27, 27] }, none⟩,
  ⟨some 3, .assign (.tmp 17), none⟩] false)).seq (SC.region 4 [⟨some 9, .move (.tmp 4), none⟩,
  ⟨some 10, .binOp .add 3 (.tmp 9) (.const (.int .i64 1)) 3, none⟩,
  ⟨some 4, .assign (.tmp 10), none⟩] false)))
/-- lectionaryref0.CopyStrings -/
def s29 : SC := ((SC.region 0 [⟨some 2, .assign (.const (.slice none 0 0)), none⟩] false).seq ((SC.region 1 [⟨some 3, .assign (.const (.slice none 0 0)), none⟩] false).seq (((SC.region 2 [⟨some 4, .assign (.const (.int .i64 0)), none⟩] false).seq (SC.block 0 (SC.loop s29L0))).seq ((SC.region 6 [⟨some 18, .move (.tmp 3), none⟩,
  ⟨some 2, .assign (.tmp 18), none⟩] false).seq SC.ret))))
theorem sl29 : slimK Tryz.f29.body s29 = some (unK s29, true) := by kernel_rfl
theorem ok29 : fnOK calmB Tryz.f29 0 = true := by kernel_rfl

def s30L0 : SC := (((SC.region 3 [⟨some 5, .move (.tmp 4), none⟩,
  ⟨some 6, .move (.tmp 0), none⟩,
  ⟨some 7, .call { callee := .builtin .len, args := #[.tmp 6], argTypes := #[28] }, none⟩,
  ⟨some 8, .binOp .lss 3 (.tmp 5) (.tmp 7) 3, none⟩] false).seq (SC.cond (.tmp 8) SC.skip (SC.exit 0))).seq ((SC.block 1 (SC.region 5 [⟨some 11, .move (.tmp 3), none⟩,
  ⟨some 12, .move (.tmp 0), none⟩,
  ⟨some 13, .move (.tmp 4), none⟩,
  ⟨some 14, .indexAddr 28 (.tmp 12) (.tmp 13), none⟩,
  ⟨some 15, .load 75 (.tmp 14), none⟩,
  ⟨some 16, .buildSlice 28 1 #[(0, .tmp 15)], none⟩,
  ⟨some 17, .call { callee := .builtin .append, args := #[.tmp 11, .tmp 16], argTypes := #[28, 28] }, none⟩,
  ⟨some 3, .assign (.tmp 17), none⟩] false)).seq (SC.region 4 [⟨some 9, .move (.tmp 4), none⟩,
  ⟨some 10, .binOp .add 3 (.tmp 9) (.const (.int .i64 1)) 3, none⟩,
  ⟨some 4, .assign (.tmp 10), none⟩] false)))
/-- lectionaryref0.CopySectors -/
def s30 : SC := ((SC.region 0 [⟨some 2, .assign (.const (.slice none 0 0)), none⟩] false).seq ((SC.region 1 [⟨some 3, .assign (.const (.slice none 0 0)), none⟩] false).seq (((SC.region 2 [⟨some 4, .assign (.const (.int .i64 0)), none⟩] false).seq (SC.block 0 (SC.loop s30L0))).seq ((SC.region 6 [⟨some 18, .move (.tmp 3), none⟩,
  ⟨some 2, .assign (.tmp 18), none⟩] false).seq SC.ret))))
theorem sl30 : slimK Tryz.f30.body s30 = some (unK s30, true) := by kernel_rfl
theorem ok30 : fnOK calmB Tryz.f30 0 = true := by kernel_rfl

/-- slices.ContainsFunc[[]string,string] -/
def s40 : SC := ((SC.region 0 [⟨some 4, .assign (.const (.bool false)), none⟩] false).seq ((SC.region 1 [⟨some 5, .move (.tmp 0), none⟩,
  ⟨some 6, .move (.tmp 1), none⟩,
  ⟨some 7, .call { callee := .value (.func 64), args := #[.tmp 5, .tmp 6], argTypes := #[27, 85] }, none⟩,
  ⟨some 8, .binOp .geq 3 (.tmp 7) (.const (.int .i64 0)) 3, none⟩,
  ⟨some 4, .assign (.tmp 8), none⟩] false).seq SC.ret))
theorem sl40 : slimK Tryz.f40.body s40 = some (unK s40, true) := by kernel_rfl
theorem ok40 : fnOK calmB Tryz.f40 0 = true := by kernel_rfl

/-- disk.May$1 -/
def s41 : SC := ((SC.region 0 [⟨some 2, .assign (.const (.bool false)), none⟩] false).seq ((SC.region 1 [⟨some 3, .move (.tmp 0), none⟩,
  ⟨some 4, .call { callee := .value (.func 42), args := #[.tmp 3], argTypes := #[9] }, none⟩,
  ⟨some 5, .unOp .not 4 (.tmp 4), none⟩,
  ⟨some 2, .assign (.tmp 5), none⟩] false).seq SC.ret))
theorem sl41 : slimK Tryz.f41.body s41 = some (unK s41, true) := by kernel_rfl
theorem ok41 : fnOK calmB Tryz.f41 0 = true := by kernel_rfl

/-- disk.sector -/
def s42 : SC := ((SC.region 0 [⟨some 2, .assign (.const (.bool false)), none⟩] false).seq ((SC.region 1 [⟨some 3, .move (.tmp 0), none⟩,
  ⟨some 4, .call { callee := .builtin .len, args := #[.tmp 3], argTypes := #[9] }, none⟩,
  ⟨some 5, .binOp .eql 3 (.tmp 4) (.const (.int .i64 32)) 3, none⟩,
  ⟨some 2, .assign (.tmp 5), none⟩] false).seq SC.ret))
theorem sl42 : slimK Tryz.f42.body s42 = some (unK s42, true) := by kernel_rfl
theorem ok42 : fnOK calmB Tryz.f42 0 = true := by kernel_rfl

/-- slices.ContainsFunc[[]api.Sector,api.Sector] -/
def s43 : SC := ((SC.region 0 [⟨some 4, .assign (.const (.bool false)), none⟩] false).seq ((SC.region 1 [⟨some 5, .move (.tmp 0), none⟩,
  ⟨some 6, .move (.tmp 1), none⟩,
  ⟨some 7, .call { callee := .value (.func 65), args := #[.tmp 5, .tmp 6], argTypes := #[28, 87] }, none⟩,
  ⟨some 8, .binOp .geq 3 (.tmp 7) (.const (.int .i64 0)) 3, none⟩,
  ⟨some 4, .assign (.tmp 8), none⟩] false).seq SC.ret))
theorem sl43 : slimK Tryz.f43.body s43 = some (unK s43, true) := by kernel_rfl
theorem ok43 : fnOK calmB Tryz.f43 0 = true := by kernel_rfl

/-- disk.May$2 -/
def s44 : SC := ((SC.region 0 [⟨some 2, .box 75 (.tmp 0), none⟩,
  ⟨some 3, .assign (.const (.bool false)), none⟩] false).seq ((SC.region 1 [⟨some 4, .fieldAddr 75 (.tmp 2) 1, none⟩,
  ⟨some 5, .load 9 (.tmp 4), none⟩,
  ⟨some 6, .call { callee := .value (.func 42), args := #[.tmp 5], argTypes := #[9] }, none⟩,
  ⟨some 7, .unOp .not 4 (.tmp 6), none⟩,
  ⟨some 8, .move (.tmp 7), none⟩,
  ⟨some 9, .fieldAddr 75 (.tmp 2) 0, some (some 8, false)⟩,
  ⟨some 10, .load 3 (.tmp 9), some (some 8, false)⟩,
  ⟨some 11, .binOp .lss 3 (.tmp 10) (.const (.int .i64 0)) 3, some (some 8, false)⟩,
  ⟨some 12, .pick (.tmp 8) (.const (.bool true)) (.tmp 11), none⟩,
  ⟨some 13, .move (.tmp 12), none⟩,
  ⟨some 14, .fieldAddr 75 (.tmp 2) 0, some (some 13, false)⟩,
  ⟨some 15, .load 3 (.tmp 14), some (some 13, false)⟩,
  ⟨some 16, .fieldAddr 30 (.tmp 1) 0, some (some 13, false)⟩,
  ⟨some 17, .load 27 (.tmp 16), some (some 13, false)⟩,
  ⟨some 18, .call { callee := .builtin .len, args := #[.tmp 17], argTypes := #[27] }, some (some 13, false)⟩,
  ⟨some 19, .binOp .geq 3 (.tmp 15) (.tmp 18) 3, some (some 13, false)⟩,
  ⟨some 20, .pick (.tmp 13) (.const (.bool true)) (.tmp 19), none⟩,
  ⟨some 3, .assign (.tmp 20), none⟩] false).seq SC.ret))
theorem sl44 : slimK Tryz.f44.body s44 = some (unK s44, true) := by kernel_rfl
theorem ok44 : fnOK calmB Tryz.f44 0 = true := by kernel_rfl

/-- disk.Own -/
def s45 : SC := ((SC.region 0 [⟨some 1, .box 30 (.tmp 0), none⟩,
  ⟨some 2, .alloc 30, none⟩] false).seq ((SC.region 1 [⟨some 3, .fieldAddr 30 (.tmp 1) 0, none⟩,
  ⟨some 4, .load 27 (.tmp 3), none⟩,
  ⟨some 5, .call { callee := .value (.func 46), args := #[.tmp 4], argTypes := #[27] }, none⟩,
  ⟨some 6, .fieldAddr 30 (.tmp 1) 1, none⟩,
  ⟨some 7, .load 28 (.tmp 6), none⟩,
  ⟨some 8, .call { callee := .value (.func 66), args := #[.tmp 7], argTypes := #[28] }, none⟩,
  ⟨some 9, .build 30 #[(0, .tmp 5), (1, .tmp 8)], none⟩,
  ⟨none, .store 30 (.tmp 2) (.tmp 9), none⟩] true).seq SC.ret))
theorem sl45 : slimK Tryz.f45.body s45 = some (unK s45, true) := by kernel_rfl
theorem ok45 : fnOK calmB Tryz.f45 0 = true := by kernel_rfl

/-- slices.Clone[[]string,string] -/
def s46 : SC := ((SC.region 0 [⟨some 2, .assign (.const (.slice none 0 0)), none⟩] false).seq (((SC.region 1 [⟨some 3, .move (.tmp 0), none⟩,
  ⟨some 4, .binOp .eql 27 (.tmp 3) (.const (.slice none 0 0)) 27, none⟩] false).seq (SC.cond (.tmp 4) ((SC.region 2 [⟨some 2, .assign (.const (.slice none 0 0)), none⟩] false).seq SC.ret) SC.skip)).seq ((SC.region 3 [⟨some 5, .buildSlice 27 0 #[], none⟩,
  ⟨some 6, .move (.tmp 0), none⟩,
  ⟨some 7, .call { callee := .builtin .append, args := #[.tmp 5, .tmp 6], argTypes := #[27, 27] }, none⟩,
  ⟨some 2, .assign (.tmp 7), none⟩] false).seq SC.ret)))
theorem sl46 : slimK Tryz.f46.body s46 = some (unK s46, true) := by kernel_rfl
theorem ok46 : fnOK calmB Tryz.f46 0 = true := by kernel_rfl

/-- math/bits.Mul -/
def s47 : SC := ((SC.region 0 [⟨some 4, .assign (.const (.int .u64 0)), none⟩,
  ⟨some 5, .assign (.const (.int .u64 0)), none⟩] false).seq ((SC.cond (.const (.bool false)) ((SC.region 1 [⟨some 11, .move (.tmp 0), none⟩,
  ⟨some 12, .convert 82 80 (.tmp 11), none⟩,
  ⟨some 13, .move (.tmp 1), none⟩,
  ⟨some 14, .convert 82 80 (.tmp 13), none⟩,
  ⟨some 15, .call { callee := .value (.func 67), args := #[.tmp 12, .tmp 14], argTypes := #[80, 80] }, none⟩,
  ⟨some 10, .move (.tmp 15), none⟩,
  ⟨some 16, .extract (.tmp 10) 0, none⟩,
  ⟨some 17, .extract (.tmp 10) 1, none⟩,
  ⟨some 6, .assign (.tmp 16), none⟩,
  ⟨some 7, .assign (.tmp 17), none⟩] false).seq ((SC.region 2 [⟨some 18, .move (.tmp 6), none⟩,
  ⟨some 19, .convert 80 82 (.tmp 18), none⟩,
  ⟨some 20, .move (.tmp 7), none⟩,
  ⟨some 21, .convert 80 82 (.tmp 20), none⟩,
  ⟨some 4, .assign (.tmp 19), none⟩,
  ⟨some 5, .assign (.tmp 21), none⟩] false).seq SC.ret)) SC.skip).seq ((SC.region 3 [⟨some 23, .move (.tmp 0), none⟩,
  ⟨some 24, .move (.tmp 1), none⟩,
  ⟨some 25, .call { callee := .value (.func 68), args := #[.tmp 23, .tmp 24], argTypes := #[100, 100] }, none⟩,
  ⟨some 22, .move (.tmp 25), none⟩,
  ⟨some 26, .extract (.tmp 22) 0, none⟩,
  ⟨some 27, .extract (.tmp 22) 1, none⟩,
  ⟨some 8, .assign (.tmp 26), none⟩,
  ⟨some 9, .assign (.tmp 27), none⟩] false).seq ((SC.region 4 [⟨some 28, .move (.tmp 8), none⟩,
  ⟨some 29, .move (.tmp 9), none⟩,
  ⟨some 4, .assign (.tmp 28), none⟩,
  ⟨some 5, .assign (.tmp 29), none⟩] false).seq SC.ret))))
theorem sl47 : slimK Tryz.f47.body s47 = some (unK s47, true) := by kernel_rfl
theorem ok47 : fnOK calmB Tryz.f47 0 = true := by kernel_rfl

def s64L0 : SC := ((SC.region 2 [⟨some 9, .binOp .lss 3 (.tmp 8) (.tmp 7) 3, none⟩] false).seq ((SC.cond (.tmp 9) SC.skip (SC.exit 0)).seq ((SC.block 1 ((SC.region 3 [⟨some 10, .move (.tmp 8), none⟩,
  ⟨some 5, .assign (.tmp 10), none⟩] false).seq ((SC.region 4 [⟨some 11, .move (.tmp 1), none⟩,
  ⟨some 12, .move (.tmp 0), none⟩,
  ⟨some 13, .move (.tmp 5), none⟩,
  ⟨some 14, .indexAddr 27 (.tmp 12) (.tmp 13), none⟩,
  ⟨some 15, .load 9 (.tmp 14), none⟩,
  ⟨some 16, .call { callee := .value (.tmp 11), args := #[.tmp 15], argTypes := #[9] }, none⟩] false).seq (SC.cond (.tmp 16) ((SC.region 5 [⟨some 17, .move (.tmp 5), none⟩,
  ⟨some 4, .assign (.tmp 17), none⟩] false).seq SC.ret) SC.skip)))).seq (SC.region 6 [⟨some 18, .binOp .add 3 (.tmp 8) (.const (.int .i64 1)) 3, none⟩,
  ⟨some 8, .move (.tmp 18), none⟩] false))))
/-- slices.IndexFunc[[]string,string] -/
def s64 : SC := ((SC.region 0 [⟨some 4, .assign (.const (.int .i64 0)), none⟩] false).seq (((SC.region 1 [⟨some 6, .move (.tmp 0), none⟩,
  ⟨some 7, .call { callee := .builtin .len, args := #[.tmp 6], argTypes := #[27] }, none⟩,
  ⟨some 8, .move (.const (.int .i64 0)), none⟩] false).seq (SC.block 0 (SC.loop s64L0))).seq ((SC.region 7 [⟨some 4, .assign (.const (.int .i64 (-1))), none⟩] false).seq SC.ret)))
theorem sl64 : slimK Tryz.f64.body s64 = some (unK s64, true) := by kernel_rfl
theorem ok64 : fnOK calmB Tryz.f64 0 = true := by kernel_rfl

def s65L0 : SC := ((SC.region 2 [⟨some 9, .binOp .lss 3 (.tmp 8) (.tmp 7) 3, none⟩] false).seq ((SC.cond (.tmp 9) SC.skip (SC.exit 0)).seq ((SC.block 1 ((SC.region 3 [⟨some 10, .move (.tmp 8), none⟩,
  ⟨some 5, .assign (.tmp 10), none⟩] false).seq ((SC.region 4 [⟨some 11, .move (.tmp 1), none⟩,
  ⟨some 12, .move (.tmp 0), none⟩,
  ⟨some 13, .move (.tmp 5), none⟩,
  ⟨some 14, .indexAddr 28 (.tmp 12) (.tmp 13), none⟩,
  ⟨some 15, .load 75 (.tmp 14), none⟩,
  ⟨some 16, .call { callee := .value (.tmp 11), args := #[.tmp 15], argTypes := #[75] }, none⟩] false).seq (SC.cond (.tmp 16) ((SC.region 5 [⟨some 17, .move (.tmp 5), none⟩,
  ⟨some 4, .assign (.tmp 17), none⟩] false).seq SC.ret) SC.skip)))).seq (SC.region 6 [⟨some 18, .binOp .add 3 (.tmp 8) (.const (.int .i64 1)) 3, none⟩,
  ⟨some 8, .move (.tmp 18), none⟩] false))))
/-- slices.IndexFunc[[]api.Sector,api.Sector] -/
def s65 : SC := ((SC.region 0 [⟨some 4, .assign (.const (.int .i64 0)), none⟩] false).seq (((SC.region 1 [⟨some 6, .move (.tmp 0), none⟩,
  ⟨some 7, .call { callee := .builtin .len, args := #[.tmp 6], argTypes := #[28] }, none⟩,
  ⟨some 8, .move (.const (.int .i64 0)), none⟩] false).seq (SC.block 0 (SC.loop s65L0))).seq ((SC.region 7 [⟨some 4, .assign (.const (.int .i64 (-1))), none⟩] false).seq SC.ret)))
theorem sl65 : slimK Tryz.f65.body s65 = some (unK s65, true) := by kernel_rfl
theorem ok65 : fnOK calmB Tryz.f65 0 = true := by kernel_rfl

/-- slices.Clone[[]api.Sector,api.Sector] -/
def s66 : SC := ((SC.region 0 [⟨some 2, .assign (.const (.slice none 0 0)), none⟩] false).seq (((SC.region 1 [⟨some 3, .move (.tmp 0), none⟩,
  ⟨some 4, .binOp .eql 28 (.tmp 3) (.const (.slice none 0 0)) 28, none⟩] false).seq (SC.cond (.tmp 4) ((SC.region 2 [⟨some 2, .assign (.const (.slice none 0 0)), none⟩] false).seq SC.ret) SC.skip)).seq ((SC.region 3 [⟨some 5, .buildSlice 28 0 #[], none⟩,
  ⟨some 6, .move (.tmp 0), none⟩,
  ⟨some 7, .call { callee := .builtin .append, args := #[.tmp 5, .tmp 6], argTypes := #[28, 28] }, none⟩,
  ⟨some 2, .assign (.tmp 7), none⟩] false).seq SC.ret)))
theorem sl66 : slimK Tryz.f66.body s66 = some (unK s66, true) := by kernel_rfl
theorem ok66 : fnOK calmB Tryz.f66 0 = true := by kernel_rfl

/-- math/bits.Mul64 -/
def s68 : SC := ((SC.region 0 [⟨some 4, .assign (.const (.int .u64 0)), none⟩,
  ⟨some 5, .assign (.const (.int .u64 0)), none⟩] false).seq ((SC.region 1 [⟨some 14, .move (.tmp 0), none⟩,
  ⟨some 15, .binOp .and 100 (.tmp 14) (.const (.int .u64 4294967295)) 100, none⟩,
  ⟨some 6, .assign (.tmp 15), none⟩] false).seq ((SC.region 2 [⟨some 16, .move (.tmp 0), none⟩,
  ⟨some 17, .binOp .shr 100 (.tmp 16) (.const (.int .u64 32)) 82, none⟩,
  ⟨some 7, .assign (.tmp 17), none⟩] false).seq ((SC.region 3 [⟨some 18, .move (.tmp 1), none⟩,
  ⟨some 19, .binOp .and 100 (.tmp 18) (.const (.int .u64 4294967295)) 100, none⟩,
  ⟨some 8, .assign (.tmp 19), none⟩] false).seq ((SC.region 4 [⟨some 20, .move (.tmp 1), none⟩,
  ⟨some 21, .binOp .shr 100 (.tmp 20) (.const (.int .u64 32)) 82, none⟩,
  ⟨some 9, .assign (.tmp 21), none⟩] false).seq ((SC.region 5 [⟨some 22, .move (.tmp 6), none⟩,
  ⟨some 23, .move (.tmp 8), none⟩,
  ⟨some 24, .binOp .mul 100 (.tmp 22) (.tmp 23) 100, none⟩,
  ⟨some 10, .assign (.tmp 24), none⟩] false).seq ((SC.region 6 [⟨some 25, .move (.tmp 7), none⟩,
  ⟨some 26, .move (.tmp 8), none⟩,
  ⟨some 27, .binOp .mul 100 (.tmp 25) (.tmp 26) 100, none⟩,
  ⟨some 28, .move (.tmp 10), none⟩,
  ⟨some 29, .binOp .shr 100 (.tmp 28) (.const (.int .u64 32)) 82, none⟩,
  ⟨some 30, .binOp .add 100 (.tmp 27) (.tmp 29) 100, none⟩,
  ⟨some 11, .assign (.tmp 30), none⟩] false).seq ((SC.region 7 [⟨some 31, .move (.tmp 11), none⟩,
  ⟨some 32, .binOp .and 100 (.tmp 31) (.const (.int .u64 4294967295)) 100, none⟩,
  ⟨some 12, .assign (.tmp 32), none⟩] false).seq ((SC.region 8 [⟨some 33, .move (.tmp 11), none⟩,
  ⟨some 34, .binOp .shr 100 (.tmp 33) (.const (.int .u64 32)) 82, none⟩,
  ⟨some 13, .assign (.tmp 34), none⟩] false).seq ((SC.region 9 [⟨some 35, .move (.tmp 12), none⟩,
  ⟨some 36, .move (.tmp 6), none⟩,
  ⟨some 37, .move (.tmp 9), none⟩,
  ⟨some 38, .binOp .mul 100 (.tmp 36) (.tmp 37) 100, none⟩,
  ⟨some 39, .binOp .add 100 (.tmp 35) (.tmp 38) 100, none⟩,
  ⟨some 12, .assign (.tmp 39), none⟩] false).seq ((SC.region 10 [⟨some 40, .move (.tmp 7), none⟩,
  ⟨some 41, .move (.tmp 9), none⟩,
  ⟨some 42, .binOp .mul 100 (.tmp 40) (.tmp 41) 100, none⟩,
  ⟨some 43, .move (.tmp 13), none⟩,
  ⟨some 44, .binOp .add 100 (.tmp 42) (.tmp 43) 100, none⟩,
  ⟨some 45, .move (.tmp 12), none⟩,
  ⟨some 46, .binOp .shr 100 (.tmp 45) (.const (.int .u64 32)) 82, none⟩,
  ⟨some 47, .binOp .add 100 (.tmp 44) (.tmp 46) 100, none⟩,
  ⟨some 4, .assign (.tmp 47), none⟩] false).seq ((SC.region 11 [⟨some 48, .move (.tmp 0), none⟩,
  ⟨some 49, .move (.tmp 1), none⟩,
  ⟨some 50, .binOp .mul 100 (.tmp 48) (.tmp 49) 100, none⟩,
  ⟨some 5, .assign (.tmp 50), none⟩] false).seq SC.ret))))))))))))
theorem sl68 : slimK Tryz.f68.body s68 = some (unK s68, true) := by kernel_rfl
theorem ok68 : fnOK calmB Tryz.f68 0 = true := by kernel_rfl

attribute [simp] Tryz.results8 Tryz.results9 Tryz.results12 Tryz.results13 Tryz.results14 Tryz.results20 Tryz.results21 Tryz.results22 Tryz.results23 Tryz.results24 Tryz.results27 Tryz.results28 Tryz.results29 Tryz.results30 Tryz.results40 Tryz.results41 Tryz.results42 Tryz.results43 Tryz.results44 Tryz.results45 Tryz.results46 Tryz.results47 Tryz.results64 Tryz.results65 Tryz.results66 Tryz.results68

end Go.AE

/- The abstract machine: how a walk goes: each operation's own equation. -/
set_option linter.unusedVariables false
set_option linter.unusedSimpArgs false
namespace Go.AE
open Go

variable {P : Program} {F : CT} {d : Bool} {dst : Option Nat} {st : St} {K : St → Prop}

/-- A thing that is brought into its form ahead of what goes on with it. -/
def wd {α : Type} (x : α) : α := x
@[simp] theorem wd_go {α : Type} {x : α} : wd x = x := rfl
def onV (v : AV) (k : AV → Prop) : Prop := k v
@[simp] theorem onV_go {v : AV} {k : AV → Prop} : onV v k = k v := rfl
@[congr] theorem onV_cg {v v' : AV} {k : AV → Prop} (h : v = v') : onV v k = onV v' k := by rw [h]
def onN (H : Heap) (T : Nat) (rows : List (List AC)) (c : AC) (k : Heap → Nat → List (List AC) → AC → Prop) : Prop := k H T rows c
@[simp] theorem onN_go {H : Heap} {T : Nat} {rows : List (List AC)} {c : AC} {k : Heap → Nat → List (List AC) → AC → Prop} : onN H T rows c k = k H T rows c := rfl
@[congr] theorem onN_cg {H H' : Heap} {T T' : Nat} {rows rows' : List (List AC)} {c c' : AC} {k : Heap → Nat → List (List AC) → AC → Prop} (h1 : H = H') (h2 : T = T') (h3 : rows = rows') (h4 : c = c') : onN H T rows c k = onN H' T' rows' c' k := by rw [h1, h2, h3, h4]
def onA (H : Heap) (v : AV) (k : Heap → AV → Prop) : Prop := k H v
@[simp] theorem onA_go {H : Heap} {v : AV} {k : Heap → AV → Prop} : onA H v k = k H v := rfl
@[congr] theorem onA_cg {H H' : Heap} {v v' : AV} {k : Heap → AV → Prop} (h1 : H = H') (h2 : v = v') : onA H v k = onA H' v' k := by rw [h1, h2]
theorem acall_pure {dr : Bool} {st : St} {dst : Option Nat} {f : FuncId} {args args' : List AV} {ret : AV} {K : St → Prop} (hp : PEv P f args' ret) (hv : viewA st.H args = some args')
    (hun : adUn (nmOf st dst) st.H 0 ret.flat) (hdr : dr = true → ret.flat.length ≤ 1024 ∧ dst.isSome = true) (hk : onA (wd (adH (nmOf st dst) 0 ret.flat st.H)) (ret.ad (nmOf st dst)) fun H v => K ((st.hto H).put dst v)) : ACall P dr st dst f args K := .inl ⟨false, args', ret, hv, hp, hun, hdr, hk⟩
/-- A call that may hand back rows that were handed in: these stay. -/
theorem acall_prom {dr : Bool} {st : St} {dst : Option Nat} {f : FuncId} {args args' : List AV} {ret : AV} {K : St → Prop} (hv : viewA st.H args = some args') (hp : PEv P f (promA true args args') ret)
    (hun : adUn (nmOf st dst) st.H 0 ret.flat) (hdr : dr = true → ret.flat.length ≤ 1024 ∧ dst.isSome = true) (hk : onA (wd (adH (nmOf st dst) 0 ret.flat st.H)) (ret.ad (nmOf st dst)) fun H v => K ((st.hto H).put dst v)) : ACall P dr st dst f args K := .inl ⟨true, args', ret, hv, hp, hun, hdr, hk⟩
theorem newObj_gon (st : St) (d e sz : Nat) (rows : List (List AC)) (v : Id → AC) (K : St → Prop) :
    newObj st (some d) e sz rows v K = onN (wd st.H) st.T rows (v (st.T, d)) fun H T rows c => H (T, d) = .unborn ∧ K ((st.hto (hset H (T, d) (.arr e sz false rows))).put (some d) (.c c)) := rfl

theorem go_move {x : Operand} : stepS P F d dst (.move x) st K = onV (st.eval x) fun v => K (st.put dst v) := rfl
theorem go_assign {x : Operand} : stepS P F d dst (.assign x) st K = onV (st.eval x) fun v => K (st.put dst v) := rfl
/-- What goes on with a Boolean; with a value on a condition. -/
def onB (v : AV) (k : Bool → Prop) : Prop :=
  match v with
  | .c (.raw (.bool q)) => k q
  | _ => False

def onP {α : Type} (o : Option (Prop × α)) (k : α → Prop) : Prop :=
  match o with
  | some (C, v) => C ∧ k v
  | none => False

@[simp] theorem onB_go {q : Bool} {k : Bool → Prop} : onB (.c (.raw (.bool q))) k = k q := rfl
@[simp] theorem onP_go {α : Type} {C : Prop} {v : α} {k : α → Prop} : onP (some (C, v)) k = (C ∧ k v) := rfl
@[simp] theorem onP_none {α : Type} {k : α → Prop} : onP none k = False := rfl
@[congr] theorem onB_cg {v v' : AV} {k : Bool → Prop} (h : v = v') : onB v k = onB v' k := by rw [h]
@[congr] theorem onP_cg {α : Type} {o o' : Option (Prop × α)} {k : α → Prop} (h : o = o') : onP o k = onP o' k := by rw [h]

/-- A choice: a branch that is not taken is not looked at. -/
def onIf (b : Bool) (y n : Prop) : Prop := (b = true → y) ∧ (b = false → n)
def onUn (b : Bool) (y n : Prop) : Prop := (b = false → y) ∧ (b = true → n)
@[congr] theorem onIf_cg {b b' : Bool} {y n : Prop} (h : b = b') : onIf b y n = onIf b' y n := by rw [h]
@[congr] theorem onUn_cg {b b' : Bool} {y n : Prop} (h : b = b') : onUn b y n = onUn b' y n := by rw [h]
@[simp high, simp ↓] theorem onIf_true {y n : Prop} : onIf true y n = y := by simp [onIf]
@[simp high, simp ↓] theorem onIf_false {y n : Prop} : onIf false y n = n := by simp [onIf]
@[simp high, simp ↓] theorem onUn_true {y n : Prop} : onUn true y n = n := by simp [onUn]
@[simp high, simp ↓] theorem onUn_false {y n : Prop} : onUn false y n = y := by simp [onUn]
@[simp low] theorem onIf_go {b : Bool} {y n : Prop} : onIf b y n = ((b = true → y) ∧ (b = false → n)) := rfl
@[simp low] theorem onUn_go {b : Bool} {y n : Prop} : onUn b y n = ((b = false → y) ∧ (b = true → n)) := rfl

theorem onB_eq {v : AV} {k : Bool → Prop} : (match v with | .c (.raw (.bool q)) => k q | _ => False) = onB v k := rfl

theorem go_pick {c a b : Operand} : stepS P F d dst (.pick c a b) st K = onB (st.eval c) fun q => onIf q (onV (st.eval a) fun v => K (st.put dst v)) (onV (st.eval b) fun v => K (st.put dst v)) := rfl
theorem go_not {t : TypeId} {x : Operand} : stepS P F d dst (.unOp .not t x) st K = onB (st.eval x) fun q => K (st.put dst (.c (.raw (.bool (!q))))) := rfl
theorem go_cond {c : Operand} {x y : SC} {Q : AEx → St → Prop} : awpS P F (.cond c x y) Q st = onB (st.eval c) fun b => onIf b (awpS P F x Q st) (awpS P F y Q st) := rfl
theorem go_alloc {e : TypeId} : stepS P F d dst (.alloc e) st K = ((tyI P e).ok = true ∧ newObj st dst e (tyI P e).sz [(tyI P e).zero.map ofVal] (fun id => .pt id 0 0) K) := rfl

def rBox (ti : TyI) (H : Heap) (v : AV) : Option (Prop × List (List AC)) :=
  match v.cells with
  | some cs => some (ti.ok = true ∧ cs.length = ti.sz ∧ cs.all (AC.one H) = true, [cs])
  | none => none
theorem go_box {e : TypeId} {x : Operand} : stepS P F d dst (.box e x) st K = onP (rBox (tyI P e) st.H (st.eval x)) fun rows => newObj st dst e (tyI P e).sz rows (fun id => .pt id 0 0) K := by
  simp only [stepS, aop, rBox]
  cases (st.eval x).cells with
  | none => rfl
  | some cs => simp only [onP_go, and_assoc]

def rBuild (ti : TyI) (o : Option (List AC)) : Option (Prop × AV) := o.map fun cs => (ti.ok = true ∧ ti.bld = true, .g cs)
theorem go_build {t : TypeId} {parts : Array (Nat × Operand)} : stepS P F d dst (.build t parts) st K = onP (rBuild (tyI P t) (fillP st.H (tyI P t).offs ((tyI P t).zero.map ofVal) (parts.toList.map fun q => (q.1, st.eval q.2)))) fun v => K (st.put dst v) := by
  simp only [stepS, aop, rBuild]
  split
  · rename_i h; rw [h]; rfl
  · rename_i h; rw [h]; rfl

def rRows (ti te : TyI) (len : Nat) (o : Option (List (List AC))) : Option (Prop × List (List AC)) := o.map fun rows => (ti.form = 2 ∧ te.ok = true ∧ rows.length = len ∧ len * te.sz ≤ 16777216 ∧ 0 < te.sz, rows)
theorem go_buildSlice {t : TypeId} {len : Nat} {parts : Array (Nat × Operand)} : stepS P F d dst (.buildSlice t len parts) st K = onP (rRows (tyI P t) (tyI P (tyI P t).elem) len (rowsP st.H (tyI P (tyI P t).elem).sz 0 (parts.toList.map fun q => (q.1, st.eval q.2)))) fun rows => newObj st dst (tyI P t).elem (tyI P (tyI P t).elem).sz rows (fun id => .so id 0 len) K := by
  simp only [stepS, aop, rRows]
  split
  · rename_i h; rw [h]; rfl
  · rename_i h; rw [h]; rfl

def rRead (ti : TyI) (row : Option (List AC)) (j : Nat) : Option (Prop × AV) :=
  match row with
  | some row => (rdRow ti.ag ti.sz row j).map fun v => (ti.ok = true, v)
  | none => none
def rObj (H : Heap) (id : Id) (i : Nat) : Option (List AC) :=
  match H id with
  | .arr _ _ _ rows => rows[i]?
  | _ => none
def rLoad (ti : TyI) (H : Heap) (v : AV) : Option (Prop × AV) :=
  match v with
  | .c (.pt id i j) => rRead ti (rObj H id i) j
  | .c (.pv _ row j) => rRead ti (some row) j
  | _ => none
theorem go_load {t : TypeId} {x : Operand} : stepS P F d dst (.load t x) st K = onP (rLoad (tyI P t) st.H (st.eval x)) fun v => K (st.put dst v) := by
  simp only [stepS, aop]
  generalize st.eval x = v
  cases v with
  | c y =>
    cases y with
    | pt id i j =>
      simp only [rLoad, rRead, rObj]
      cases st.H id with
      | arr e sz frz rows =>
        simp only
        cases rows[i]? with
        | none => rfl
        | some row =>
          simp only
          cases rdRow (tyI P t).ag (tyI P t).sz row j <;> rfl
      | _ => rfl
    | pv tg row j =>
      simp only [rLoad, rRead]
      cases rdRow (tyI P t).ag (tyI P t).sz row j <;> rfl
    | _ => rfl
  | _ => rfl

def rStore (ti : TyI) (H : Heap) (x v : AV) : Option (Prop × Heap) :=
  match x, v.cells with
  | .c (.pt id i j), some cs => match H id with
    | .arr e sz false rows => match rows[i]? with
      | some row => some (ti.ok = true ∧ cs.length = ti.sz ∧ cs.all (AC.one H) = true ∧ j + cs.length ≤ row.length, hset H id (.arr e sz false (rows.set i (lay row j cs))))
      | none => none
    | _ => none
  | _, _ => none
theorem go_store {t : TypeId} {x v : Operand} : stepS P F d dst (.store t x v) st K = onP (rStore (tyI P t) st.H (st.eval x) (st.eval v)) fun H => K ((st.hto H).put dst (.c (.raw undef))) := by
  simp only [stepS, aop]
  generalize st.eval x = u
  generalize st.eval v = q
  unfold rStore
  cases q.cells with
  | none => cases u with
    | c y => cases y <;> rfl
    | _ => rfl
  | some cs => cases u with
    | c y => cases y with
      | pt id i j =>
        simp only
        cases st.H id with
        | arr e sz frz rows =>
          cases frz with
          | true => rfl
          | false =>
            simp only
            cases rows[i]? <;> rfl
        | _ => rfl
      | _ => rfl
    | _ => rfl

def rNil (H : Heap) (v : AV) : Option (Prop × AV) :=
  match v with
  | .c (.pt id i j) => some ((H id).live = true, .c (.pt id i j))
  | _ => none
theorem go_nilCheck {x : Operand} : stepS P F d dst (.nilCheck x) st K = onP (rNil st.H (st.eval x)) fun v => K (st.put dst v) := by
  simp only [stepS, aop]
  generalize st.eval x = v
  cases v with
  | c y => cases y <;> rfl
  | _ => rfl

theorem go_binOp {op : BinOp} {t t' : TypeId} {x y : Operand} (hy : isNilC y = false) : stepS P F d dst (.binOp op t x y t') st K = onP (abin (tyI P t) op (st.eval x) (st.eval y)) fun c => K (st.put dst (.c c)) := by
  simp only [stepS, hy, Bool.false_eq_true, if_false, aop]
  cases abin (tyI P t) op (st.eval x) (st.eval y) <;> rfl
theorem go_bin_t {op : BinOp} {t t' : TypeId} {x : Operand} {y : Nat} : stepS P F d dst (.binOp op t x (.tmp y) t') st K = onP (abin (tyI P t) op (st.eval x) (st.eval (.tmp y))) fun c => K (st.put dst (.c c)) := go_binOp rfl
theorem go_bin_i {op : BinOp} {t t' : TypeId} {x : Operand} {k : IntKind} {n : Int} : stepS P F d dst (.binOp op t x (.const (.int k n)) t') st K = onP (abin (tyI P t) op (st.eval x) (.c (.raw (.int k n)))) fun c => K (st.put dst (.c c)) := go_binOp rfl
theorem go_bin_b {op : BinOp} {t t' : TypeId} {x : Operand} {q : Bool} : stepS P F d dst (.binOp op t x (.const (.bool q)) t') st K = onP (abin (tyI P t) op (st.eval x) (.c (.raw (.bool q)))) fun c => K (st.put dst (.c c)) := go_binOp rfl
theorem go_bin_s {op : BinOp} {t t' : TypeId} {x : Operand} {s : ByteArray} : stepS P F d dst (.binOp op t x (.const (.string s)) t') st K = onP (abin (tyI P t) op (st.eval x) (.c (.str s.data.toList))) fun c => K (st.put dst (.c c)) := go_binOp rfl

def onNil (ti : TyI) (op : BinOp) (d : Bool) (v : AV) (k : Bool → Prop) : Prop :=
  match op, v with
  | .eql, .c (.sl _ _ xs) => d = false ∧ ti.form = 2 ∧ (xs = [] → k true) ∧ k false
  | .neq, .c (.sl _ _ xs) => d = false ∧ ti.form = 2 ∧ (xs = [] → k false) ∧ k true
  | _, _ => False
@[congr] theorem onNil_cg {ti : TyI} {op : BinOp} {v v' : AV} {k : Bool → Prop} (h : v = v') : onNil ti op d v k = onNil ti op d v' k := by rw [h]
@[simp] theorem onNil_eql {ti : TyI} {t : Tag} {cl : Bool} {xs : List (List AC)} {k : Bool → Prop} : onNil ti .eql d (.c (.sl t cl xs)) k = (d = false ∧ ti.form = 2 ∧ (xs = [] → k true) ∧ k false) := rfl
@[simp] theorem onNil_neq {ti : TyI} {t : Tag} {cl : Bool} {xs : List (List AC)} {k : Bool → Prop} : onNil ti .neq d (.c (.sl t cl xs)) k = (d = false ∧ ti.form = 2 ∧ (xs = [] → k false) ∧ k true) := rfl
theorem go_bin_nil {op : BinOp} {t t' : TypeId} {x : Operand} : stepS P F d dst (.binOp op t x (.const (.slice none 0 0)) t') st K = onNil (tyI P t) op d (st.eval x) fun q => K (st.put dst (.c (.raw (.bool q)))) := by
  simp only [stepS, isNilC, if_true, ev_const, ofVal]
  generalize st.eval x = v
  unfold aNil onNil
  cases op <;> (try (simp; done))
  all_goals
    cases v with
    | c y => cases y <;> simp
    | _ => simp

def rConv (ts ti te : TyI) (H : Heap) (v : AV) : Option (Prop × AV) :=
  match v with
  | .c (.raw (.int _ n)) => ti.kind.map fun k => (ts.form = 3, .c (.raw (.int k (k.wrap n))))
  | .c (.str l) => some (ts.form = 1 ∧ ti.form = 1, .c (.str l))
  | .c x => ((rowsOf H x).bind bytesAC).map fun l => (ts.form = 2 ∧ ti.form = 1 ∧ te.kind = some .u8, .c (.str l))
  | _ => none
theorem go_convert {src t : TypeId} {x : Operand} : stepS P F d dst (.convert src t x) st K = onP (rConv (tyI P src) (tyI P t) (tyI P (tyI P src).elem) st.H (st.eval x)) fun v => K (st.put dst v) := by
  simp only [stepS, aop]
  generalize st.eval x = v
  cases v with
  | c y =>
    cases y with
    | str l => rfl
    | raw u =>
      cases u with
      | int k n =>
        simp only [rConv]
        cases (tyI P t).kind <;> rfl
      | _ =>
        simp only [rConv]
        generalize (Option.bind (rowsOf st.H _) bytesAC) = o
        cases o <;> rfl
    | _ =>
      simp only [rConv]
      generalize (Option.bind (rowsOf st.H _) bytesAC) = o
      cases o <;> rfl
  | _ => rfl

def rFn (first : Array Operand) (f : FuncId) (o : Option (List AC)) : Option (Prop × AV) := o.map fun cs => (first = #[], .c (.fn f cs))
theorem go_makeFunc {f : FuncId} {first caps : Array Operand} : stepS P F d dst (.makeFunc (.func f) first caps) st K = onP (rFn first f (capsOf st caps.toList)) fun v => K (st.put dst v) := by
  simp only [stepS, aop, rFn]
  split
  · rename_i h; rw [h]; rfl
  · rename_i h; rw [h]; rfl

def rMake (ti te : TyI) (l c : AV) : Option (Prop × Nat) :=
  match l, c with
  | .c (.raw (.int .i64 n)), .c (.raw (.int .i64 m)) => some (n = m ∧ 0 ≤ n ∧ n ≤ 9223372036854775807 ∧ n * te.bytes ≤ 281474976710656 ∧ ti.form = 2 ∧ te.ok = true ∧ 0 < te.sz, n.toNat)
  | _, _ => none
theorem go_makeSlice {t : TypeId} {l c : Operand} : stepS P F d dst (.makeSlice t l c) st K = onP (rMake (tyI P t) (tyI P (tyI P t).elem) (st.eval l) (st.eval c)) fun n => newObj st dst (tyI P t).elem (tyI P (tyI P t).elem).sz (List.replicate n ((tyI P (tyI P t).elem).zero.map ofVal)) (fun id => .so id 0 n) K := by
  simp only [stepS, aop]
  generalize st.eval l = v
  generalize st.eval c = u
  unfold rMake
  split
  · rfl
  · rename_i n
    split
    · exact (n _ _ rfl rfl).elim
    · rfl

def rFieldA (ti : TyI) (H : Heap) (f : Nat) (v : AV) : Option (Prop × AV) :=
  match v, ti.offs[f]? with
  | .c (.pt id i j), some (off, n, _) => some ((ti.form = 5 ∧ 0 < n) ∧ (H id).live = true, .c (.pt id i (j + off)))
  | .c (.pv tg row j), some (off, n, _) => some (ti.form = 5 ∧ 0 < n, .c (.pv tg row (j + off)))
  | _, _ => none
theorem go_fieldAddr {t : TypeId} {x : Operand} {f : Nat} : stepS P F d dst (.fieldAddr t x f) st K = onP (rFieldA (tyI P t) st.H f (st.eval x)) fun v => K (st.put dst v) := by
  simp only [stepS, aop]
  generalize st.eval x = v
  generalize hq : (tyI P t).offs[f]? = q
  unfold rFieldA
  rw [hq]
  split
  · simp only [onP_go, and_assoc]
  · rfl
  · rename_i n1 n2
    split
    · exact (n1 _ _ _ _ _ _ rfl rfl).elim
    · exact (n2 _ _ _ _ _ _ rfl rfl).elim
    · rfl

def rField (ti : TyI) (f : Nat) (v : AV) : Option (Prop × AV) :=
  match v, ti.offs[f]? with
  | .g xs, some (off, n, ag) => (rdRow ag n xs off).map fun v => (ti.form = 5 ∧ 0 < n, v)
  | _, _ => none
theorem go_field {t : TypeId} {x : Operand} {f : Nat} : stepS P F d dst (.field t x f) st K = onP (rField (tyI P t) f (st.eval x)) fun v => K (st.put dst v) := by
  simp only [stepS, aop]
  generalize st.eval x = v
  unfold rField
  cases hq : (tyI P t).offs[f]? with
  | none => cases v <;> rfl
  | some q =>
    obtain ⟨off, n, ag⟩ := q
    cases v with
    | g xs =>
      simp only
      cases rdRow ag n xs off <;> rfl
    | _ => rfl

def rIndexA (ti te : TyI) (eid : TypeId) (H : Heap) (x ix : AV) : Option (Prop × AV) :=
  match x, ix with
  | .c (.sl tg _ xs), .c (.raw (.int _ i)) => some ((ti.form = 2 ∧ te.ok = true ∧ te.sz = (xs.getD i.toNat []).length) ∧ 0 ≤ i ∧ i < xs.length, .c (.pv tg (xs.getD i.toNat []) 0))
  | .c (.so id off len), .c (.raw (.int _ i)) => some ((ti.form = 2 ∧ te.ok = true ∧ ∃ frz rows, H id = .arr eid te.sz frz rows) ∧ 0 ≤ i ∧ i < len, .c (.pt id (off + i.toNat) 0))
  | _, _ => none
theorem go_indexAddr {t : TypeId} {x ix : Operand} : stepS P F d dst (.indexAddr t x ix) st K = onP (rIndexA (tyI P t) (tyI P (tyI P t).elem) (tyI P t).elem st.H (st.eval x) (st.eval ix)) fun v => K (st.put dst v) := by
  simp only [stepS, aop]
  generalize st.eval x = v
  generalize st.eval ix = u
  unfold rIndexA
  split
  · rfl
  · rfl
  · rename_i n1 n2
    split
    · exact (n1 _ _ _ _ _ rfl rfl).elim
    · exact (n2 _ _ _ _ _ rfl rfl).elim
    · rfl

def rIndex (ti : TyI) (x ix : AV) : Option (Prop × AV) :=
  match x, ix with
  | .c (.str l), .c (.raw (.int _ i)) => some (ti.form = 1 ∧ 0 ≤ i ∧ i < l.length, .c (.raw (.int .u8 (bts l i))))
  | _, _ => none
theorem go_index {t : TypeId} {x ix : Operand} : stepS P F d dst (.index t x ix) st K = onP (rIndex (tyI P t) (st.eval x) (st.eval ix)) fun v => K (st.put dst v) := by
  simp only [stepS, aop]
  generalize st.eval x = v
  generalize st.eval ix = u
  unfold rIndex
  split
  · rfl
  · rename_i n
    split
    · exact (n _ _ _ rfl rfl).elim
    · rfl

def rExtract (i : Nat) (v : AV) : Option (Prop × AV) :=
  match v with
  | .t parts => match parts[i]? with
    | some (true, cs) => some (True, .g cs)
    | some (false, [c]) => some (True, .c c)
    | _ => none
  | _ => none
theorem go_extract {x : Operand} {i : Nat} : stepS P F d dst (.extract x i) st K = onP (rExtract i (st.eval x)) fun v => K (st.put dst v) := by
  simp only [stepS, aop]
  generalize st.eval x = v
  unfold rExtract
  cases v with
  | t parts =>
    simp only
    cases parts[i]? with
    | none => rfl
    | some q =>
      obtain ⟨b, cs⟩ := q
      cases b with
      | true => simp
      | false =>
        cases cs with
        | nil => rfl
        | cons c cs => cases cs <;> simp
  | _ => rfl

def rSlice (ti te : TyI) (eid : TypeId) (H : Heap) (x : AV) (lo hi mx : Option AV) : Option (Prop × AV) :=
  match x with
  | .c (.str l) =>
    match lo.getD (.c (.raw (.int .i64 0))), hi.getD (.c (.raw (.int .i64 l.length))) with
    | .c (.raw (.int _ i)), .c (.raw (.int _ j)) => some (ti.form = 1 ∧ mx.isNone = true ∧ 0 ≤ i ∧ i ≤ j ∧ j ≤ l.length, .c (.str ((l.take j.toNat).drop i.toNat)))
    | _, _ => none
  | .c (.sl tg _ xs) =>
    match lo.getD (.c (.raw (.int .i64 0))), hi.getD (.c (.raw (.int .i64 xs.length))), mx with
    | .c (.raw (.int _ i)), .c (.raw (.int _ j)), none => some (ti.form = 2 ∧ te.ok = true ∧ (∀ r ∈ xs, r.length = te.sz) ∧ 0 ≤ i ∧ i ≤ j ∧ j ≤ xs.length, .c (.sl tg false ((xs.take j.toNat).drop i.toNat)))
    | .c (.raw (.int _ i)), .c (.raw (.int _ j)), some (.c (.raw (.int _ m))) => some (ti.form = 2 ∧ te.ok = true ∧ (∀ r ∈ xs, r.length = te.sz) ∧ 0 ≤ i ∧ i ≤ j ∧ j = m ∧ m ≤ xs.length ∧ hi.isSome = true, .c (.sl tg true ((xs.take j.toNat).drop i.toNat)))
    | _, _, _ => none
  | .c (.so id off len) =>
    match lo.getD (.c (.raw (.int .i64 0))), hi.getD (.c (.raw (.int .i64 len))), mx with
    | .c (.raw (.int _ i)), .c (.raw (.int _ j)), none => some (ti.form = 2 ∧ te.ok = true ∧ (∃ sz frz rows, H id = .arr eid sz frz rows ∧ sz = te.sz) ∧ 0 ≤ i ∧ i ≤ j ∧ j ≤ len, .c (.so id (off + i.toNat) (j.toNat - i.toNat)))
    | _, _, _ => none
  | _ => none
theorem go_slice {t : TypeId} {x : Operand} {lo hi mx : Option Operand} : stepS P F d dst (.slice t x lo hi mx) st K = onP (rSlice (tyI P t) (tyI P (tyI P t).elem) (tyI P t).elem st.H (st.eval x) (lo.map st.eval) (hi.map st.eval) (mx.map st.eval)) fun v => K (st.put dst v) := by
  have e1 : (mx.map st.eval).isNone = mx.isNone := by cases mx <;> rfl
  have e2 : (hi.map st.eval).isSome = hi.isSome := by cases hi <;> rfl
  have e3 : mx.map st.eval = none → True := fun _ => trivial
  simp only [stepS, aop, rSlice, e1, e2]
  generalize st.eval x = v
  generalize lo.map st.eval = l
  generalize hi.map st.eval = h
  generalize mx.map st.eval = m
  cases v with
  | c y =>
    cases y with
    | str s =>
      simp only
      generalize l.getD _ = p
      generalize h.getD _ = q
      cases p <;> (try rfl)
      rename_i p
      cases p <;> (try rfl)
      rename_i p
      cases p <;> (try rfl)
      cases q <;> (try rfl)
      rename_i q
      cases q <;> (try rfl)
      rename_i q
      cases q <;> rfl
    | sl tg cl xs =>
      simp only
      generalize l.getD _ = p
      generalize h.getD _ = q
      cases p <;> (try rfl)
      rename_i p
      cases p <;> (try rfl)
      rename_i p
      cases p <;> (try rfl)
      cases q <;> (try rfl)
      rename_i q
      cases q <;> (try rfl)
      rename_i q
      cases q <;> (try rfl)
      cases m <;> (try rfl)
      rename_i m
      cases m <;> (try rfl)
      rename_i m
      cases m <;> (try rfl)
      rename_i m
      cases m <;> rfl
    | so id off len =>
      simp only
      generalize l.getD _ = p
      generalize h.getD _ = q
      cases p <;> (try rfl)
      rename_i p
      cases p <;> (try rfl)
      rename_i p
      cases p <;> (try rfl)
      cases q <;> (try rfl)
      rename_i q
      cases q <;> (try rfl)
      rename_i q
      cases q <;> (try rfl)
      cases m <;> rfl
    | _ => rfl
  | _ => rfl
def onFn (v : AV) (k : FuncId → List AC → Prop) : Prop :=
  match v with
  | .c (.fn g caps) => k g caps
  | _ => False
@[simp] theorem onFn_go {g : FuncId} {caps : List AC} {k : FuncId → List AC → Prop} : onFn (.c (.fn g caps)) k = k g caps := rfl
@[congr] theorem onFn_cg {v v' : AV} {k : FuncId → List AC → Prop} (h : v = v') : onFn v k = onFn v' k := by rw [h]
theorem go_call {f : Operand} {args : Array Operand} {ts : Array TypeId} : stepS P F d dst (.call { callee := .value f, args := args, argTypes := ts }) st K = onFn (st.eval f) fun g caps => CallS P F d st dst g (args.toList.map st.eval ++ caps.map .c) K := by
  simp only [stepS]
  generalize st.eval f = v
  cases v with
  | c y => cases y <;> rfl
  | _ => rfl
theorem go_builtin {b : Builtin} {args : Array Operand} {ts : Array TypeId} : stepS P F d dst (.call { callee := .builtin b, args := args, argTypes := ts }) st K = abi P dst b args.toList ts.toList st K := rfl

def rLen (ti : TyI) (H : Heap) (v : AV) : Option (Prop × AV) :=
  match v with
  | .c (.str l) => some (ti.form = 1, .c (.raw (.int .i64 l.length)))
  | .c (.so id _ len) => some (ti.form = 2 ∧ (H id).live = true, .c (.raw (.int .i64 len)))
  | .c (.sl _ _ xs) => some (ti.form = 2, .c (.raw (.int .i64 xs.length)))
  | .c (.raw (.slice none 0 0)) => some (ti.form = 2, .c (.raw (.int .i64 0)))
  | _ => none
theorem go_len {x : Operand} {t : TypeId} : abi P dst .len [x] [t] st K = onP (rLen (tyI P t) st.H (st.eval x)) fun v => K (st.put dst v) := by
  simp only [abi]
  generalize st.eval x = v
  unfold rLen
  split
  · rfl
  · rfl
  · rfl
  · rfl
  · rename_i n1 n2 n3 n4
    split
    · exact (n1 _ rfl).elim
    · exact (n2 _ _ _ rfl).elim
    · exact (n3 _ _ _ rfl).elim
    · exact (n4 rfl).elim
    · rfl

/-- A call by the table. -/
def onE (g : Option Ent) (H : Heap) (args : List AV) (fall : Prop) (k : AV → Prop) (m : List (Id × OK) → AV → Prop) : Prop :=
  match g with
  | some (.pu h) => onP ((viewA H args).bind h) k
  | some (.mu h) => onP (h H args) fun r => m r.1 r.2
  | none => fall
@[simp] theorem onE_pu {H : Heap} {args : List AV} {h : List AV → Option (Prop × AV)} {fall : Prop} {k : AV → Prop} {m : List (Id × OK) → AV → Prop} : onE (some (.pu h)) H args fall k m = onP ((viewA H args).bind h) k := rfl
@[simp] theorem onE_mu {H : Heap} {args : List AV} {h : MH} {fall : Prop} {k : AV → Prop} {m : List (Id × OK) → AV → Prop} : onE (some (.mu h)) H args fall k m = onP (h H args) fun r => m r.1 r.2 := rfl
@[simp] theorem onE_none {H : Heap} {args : List AV} {fall : Prop} {k : AV → Prop} {m : List (Id × OK) → AV → Prop} : onE none H args fall k m = fall := rfl
@[congr] theorem onE_cg {g g' : Option Ent} {H : Heap} {args : List AV} {fall : Prop} {k : AV → Prop} {m : List (Id × OK) → AV → Prop} (h : g = g') : onE g H args fall k m = onE g' H args fall k m := by rw [h]
theorem go_callS {f : FuncId} {args : List AV} : CallS P F d st dst f args K =
    onE (ctGet F f) st.H args (ACall P d st dst f args K)
      (fun ret => adUn (nmOf st dst) st.H 0 ret.flat ∧ (d = true → ret.flat.length ≤ 1024 ∧ dst.isSome = true) ∧ onA (wd (adH (nmOf st dst) 0 ret.flat st.H)) (ret.ad (nmOf st dst)) fun H v => K ((st.hto H).put dst v))
      fun us ret => d = false ∧ adUn (nmOf st dst) st.H 0 ret.flat ∧ onA (wd (adH (nmOf st dst) 0 ret.flat (upH st.H us))) (ret.ad (nmOf st dst)) fun H v => K ((st.hto H).put dst v) := by
  unfold CallS
  cases ctGet F f with
  | none => rfl
  | some e =>
    cases e with
    | pu h =>
      simp only [onE_pu]
      cases viewA st.H args with
      | none => rfl
      | some args' =>
        simp only [Option.bind_some]
        cases h args' with
        | none => rfl
        | some q => rfl
    | mu h =>
      simp only [onE_mu]
      cases h st.H args with
      | none => rfl
      | some q => rfl

/-- The call that turns objects, in a region that draws its order. -/
def onD (g : Option Ent) (H : Heap) (args : List AV) (m : List (Id × OK) → AV → Prop) : Prop :=
  match g with
  | some (.mu h) => onP (h H args) fun r => m r.1 r.2
  | _ => False
@[simp] theorem onD_mu {H : Heap} {args : List AV} {h : MH} {m : List (Id × OK) → AV → Prop} : onD (some (.mu h)) H args m = onP (h H args) fun r => m r.1 r.2 := rfl
@[congr] theorem onD_cg {g g' : Option Ent} {H : Heap} {args : List AV} {m : List (Id × OK) → AV → Prop} (h : g = g') : onD g H args m = onD g' H args m := by rw [h]
theorem go_dstep {f : Operand} {args : Array Operand} {ts : Array TypeId} {K : List Id → St → Prop} : dstepS P F ⟨dst, .call { callee := .value f, args := args, argTypes := ts }, none⟩ st K =
    onFn (st.eval f) fun g caps => onD (ctGet F g) st.H (args.toList.map st.eval ++ caps.map .c) fun us ret => adUn (nmOf st dst) st.H 0 ret.flat ∧ (ret.flat.length ≤ 1024 ∧ dst.isSome = true) ∧
      onA (wd (adH (nmOf st dst) 0 ret.flat (upH st.H us))) (ret.ad (nmOf st dst)) fun H v => K (us.map (·.1)) ((st.hto H).put dst v) := by
  unfold dstepS onFn
  simp only
  generalize st.eval f = v
  cases v with
  | c x =>
    cases x with
    | fn g caps =>
      simp only
      cases ctGet F g with
      | none => rfl
      | some e =>
        cases e with
        | pu h => rfl
        | mu h =>
          simp only [onD_mu]
          cases h st.H _ with
          | none => rfl
          | some q => rfl
    | _ => rfl
  | _ => rfl
def onId (v : AV) (k : Id → Prop) : Prop :=
  match v with
  | .c (.pt id _ _) => k id
  | _ => False
@[simp] theorem onId_go {id : Id} {i j : Nat} {k : Id → Prop} : onId (.c (.pt id i j)) k = k id := rfl
@[congr] theorem onId_cg {v v' : AV} {k : Id → Prop} (h : v = v') : onId v k = onId v' k := by rw [h]
theorem go_dstore {t : TypeId} {x v : Operand} {K : List Id → St → Prop} : dstepS P F ⟨dst, .store t x v, none⟩ st K = onId (st.eval x) fun id => stepS P F true dst (.store t x v) st (K [id]) := by
  unfold dstepS onId
  simp only [stepS]
  generalize st.eval x = u
  cases u with
  | c c => cases c <;> rfl
  | _ => rfl
theorem opsD_nil {js : List Nat} {prs : List (Nat × Nat)} {i : Nat} {W : List (Nat × Id)} {N : List (Nat × AV)} {K : List (Nat × Id) → List (Nat × AV) → St → Prop} : opsD P F js prs [] i W N K st = K W N st := rfl
theorem opsD_cons {js : List Nat} {prs : List (Nat × Nat)} {i : Nat} {W : List (Nat × Id)} {N : List (Nat × AV)} {op : Op} {l : List SO} {K : List (Nat × Id) → List (Nat × AV) → St → Prop} : opsD P F js prs (⟨dst, op, none⟩ :: l) i W N K st =
    if js.contains i = true then dstepS P F ⟨dst, op, none⟩ st fun W' st' => opsD P F js prs l (i + 1) (W'.map (fun id => (i, id)) ++ W) (if prs.any (·.2 == i) = true then namedL i op st ++ N else N) K st'
    else stepS P F true dst op st (opsD P F js prs l (i + 1) W (if prs.any (·.2 == i) = true then namedL i op st ++ N else N) K) := rfl
theorem opsD_guard {js : List Nat} {prs : List (Nat × Nat)} {i : Nat} {W : List (Nat × Id)} {N : List (Nat × AV)} {op : Op} {l : List SO} {gs : Option Nat} {want : Bool} {K : List (Nat × Id) → List (Nat × AV) → St → Prop} : opsD P F js prs (⟨dst, op, some (gs, want)⟩ :: l) i W N K st =
    if js.contains i = true then False
    else agd gs want st (fun st' => stepS P F true dst op st' (opsD P F js prs l (i + 1) W (if prs.any (·.2 == i) = true then namedL i op st ++ N else N) K))
          (fun st' => opsD P F js prs l (i + 1) W (if prs.any (·.2 == i) = true then namedL i op st ++ N else N) K (st'.put dst (.c (.raw undef)))) := by
  rw [opsD]
  by_cases hj : js.contains i = true
  · rw [if_pos hj, if_pos hj]
    unfold dstepS
    cases op <;> rfl
  · rw [if_neg hj, if_neg hj]
theorem opsD_cg {js : List Nat} {prs : List (Nat × Nat)} {i : Nat} {W : List (Nat × Id)} {N : List (Nat × AV)} {l : List SO} {K : List (Nat × Id) → List (Nat × AV) → St → Prop} {st st' : St} (h : st = st') : opsD P F js prs l i W N K st = opsD P F js prs l i W N K st' := by rw [h]
theorem dstepS_cg {o : SO} {K : List Id → St → Prop} {st st' : St} (h : st = st') : dstepS P F o st K = dstepS P F o st' K := by rw [h]
attribute [congr] opsD_cg dstepS_cg
attribute [simp ↓] go_dstep go_dstore opsD_nil opsD_cons opsD_guard
attribute [simp] namedL Op.operands

@[simp] theorem idV_c {id : Id} {c : AC} : idV id (.c c) ↔ idC id c := by simp [idV, AV.flat]
@[simp] theorem idV_g {id : Id} {cs : List AC} : idV id (.g cs) ↔ ∃ c ∈ cs, idC id c := by simp [idV, AV.flat]
@[simp] theorem idC_so {id i : Id} {off len : Nat} : idC id (.so i off len) ↔ id = i := ⟨(fun h => by cases h; rfl), (fun h => by subst h; constructor)⟩
@[simp] theorem idC_pt {id i : Id} {j k : Nat} : idC id (.pt i j k) ↔ id = i := ⟨(fun h => by cases h; rfl), (fun h => by subst h; constructor)⟩
@[simp] theorem idC_raw {id : Id} {v : Value} : idC id (.raw v) ↔ False := ⟨(fun h => nomatch h), (fun h => h.elim)⟩
@[simp] theorem idC_str {id : Id} {l : List UInt8} : idC id (.str l) ↔ False := ⟨(fun h => nomatch h), (fun h => h.elim)⟩
@[simp] theorem idC_sl {id : Id} {t : Tag} {cl : Bool} {xs : List (List AC)} : idC id (.sl t cl xs) ↔ False := ⟨(fun h => nomatch h), (fun h => h.elim)⟩
@[simp] theorem idC_pv {id : Id} {t : Tag} {row : List AC} {j : Nat} : idC id (.pv t row j) ↔ False := ⟨(fun h => nomatch h), (fun h => h.elim)⟩
attribute [simp] upH

section
variable {ti te ts : TyI} {H : Heap} {id : Id} {i j off len n eid : Nat} {row cs : List AC} {rows xs : List (List AC)} {tg : Tag} {cl : Bool} {c : AC} {k k' k'' : IntKind} {a b m : Int} {l : List UInt8} {v : AV}
@[simp] theorem rBox_c : rBox ti H (.c c) = some (ti.ok = true ∧ 1 = ti.sz ∧ AC.one H c = true, [[c]]) := by simp [rBox, AV.cells]
@[simp] theorem rBox_g : rBox ti H (.g cs) = some (ti.ok = true ∧ cs.length = ti.sz ∧ cs.all (AC.one H) = true, [cs]) := rfl
@[simp] theorem rBuild_go : rBuild ti (some cs) = some (ti.ok = true ∧ ti.bld = true, .g cs) := rfl
@[simp] theorem rRows_go : rRows ti te n (some rows) = some (ti.form = 2 ∧ te.ok = true ∧ rows.length = n ∧ n * te.sz ≤ 16777216 ∧ 0 < te.sz, rows) := rfl
@[simp] theorem rRead_go : rRead ti (some row) j = (rdRow ti.ag ti.sz row j).map fun v => (ti.ok = true, v) := rfl
@[simp] theorem rLoad_pt : rLoad ti H (.c (.pt id i j)) = rRead ti (rObj H id i) j := rfl
@[simp] theorem rLoad_pv : rLoad ti H (.c (.pv tg row j)) = rRead ti (some row) j := rfl
def rowAt (o : OK) (i : Nat) : Option (List AC) :=
  match o with
  | .arr _ _ _ rows => rows[i]?
  | _ => none
@[simp] theorem rObj_go : rObj H id i = rowAt (H id) i := rfl
@[simp] theorem rowAt_go {e sz : Nat} {f : Bool} : rowAt (.arr e sz f rows) i = rows[i]? := rfl
def stAt (ti : TyI) (H : Heap) (id : Id) (i j : Nat) (cs : List AC) (o : OK) : Option (Prop × Heap) :=
  match o with
  | .arr e sz false rows => match rows[i]? with
      | some row => some (ti.ok = true ∧ cs.length = ti.sz ∧ cs.all (AC.one H) = true ∧ j + cs.length ≤ row.length, hset H id (.arr e sz false (rows.set i (lay row j cs))))
      | none => none
  | _ => none
def stRow (ti : TyI) (H : Heap) (id : Id) (i j e sz : Nat) (cs : List AC) (rows : List (List AC)) (o : Option (List AC)) : Option (Prop × Heap) :=
  o.map fun row => (ti.ok = true ∧ cs.length = ti.sz ∧ cs.all (AC.one H) = true ∧ j + cs.length ≤ row.length, hset H id (.arr e sz false (rows.set i (lay row j cs))))
@[simp] theorem rStore_c : rStore ti H (.c (.pt id i j)) (.c c) = stAt ti H id i j [c] (H id) := rfl
@[simp] theorem rStore_g : rStore ti H (.c (.pt id i j)) (.g cs) = stAt ti H id i j cs (H id) := rfl
@[simp] theorem stAt_go {e sz : Nat} : stAt ti H id i j cs (.arr e sz false rows) = stRow ti H id i j e sz cs rows rows[i]? := by
  show (match rows[i]? with
      | some row => some (ti.ok = true ∧ cs.length = ti.sz ∧ cs.all (AC.one H) = true ∧ j + cs.length ≤ row.length, hset H id (.arr e sz false (rows.set i (lay row j cs))))
      | none => none) = _
  unfold stRow
  generalize rows[i]? = o
  cases o <;> rfl
@[simp] theorem stRow_go {e sz : Nat} : stRow ti H id i j e sz cs rows (some row) = some (ti.ok = true ∧ cs.length = ti.sz ∧ cs.all (AC.one H) = true ∧ j + cs.length ≤ row.length, hset H id (.arr e sz false (rows.set i (lay row j cs)))) := rfl
@[simp] theorem rNil_go : rNil H (.c (.pt id i j)) = some ((H id).live = true, .c (.pt id i j)) := rfl
@[simp] theorem rConv_int : rConv ts ti te H (.c (.raw (.int k a))) = ti.kind.map fun k => (ts.form = 3, .c (.raw (.int k (k.wrap a)))) := rfl
@[simp] theorem rConv_str : rConv ts ti te H (.c (.str l)) = some (ts.form = 1 ∧ ti.form = 1, .c (.str l)) := rfl
@[simp] theorem rConv_so : rConv ts ti te H (.c (.so id off len)) = ((rowsOf H (.so id off len)).bind bytesAC).map fun l => (ts.form = 2 ∧ ti.form = 1 ∧ te.kind = some .u8, .c (.str l)) := rfl
@[simp] theorem rConv_sl : rConv ts ti te H (.c (.sl tg cl xs)) = (bytesAC xs).map fun l => (ts.form = 2 ∧ ti.form = 1 ∧ te.kind = some .u8, .c (.str l)) := rfl
@[simp] theorem rFn_go {first : Array Operand} {f : FuncId} : rFn first f (some cs) = some (first = #[], .c (.fn f cs)) := rfl
@[simp] theorem rMake_go : rMake ti te (.c (.raw (.int .i64 a))) (.c (.raw (.int .i64 b))) = some (a = b ∧ 0 ≤ a ∧ a ≤ 9223372036854775807 ∧ a * te.bytes ≤ 281474976710656 ∧ ti.form = 2 ∧ te.ok = true ∧ 0 < te.sz, a.toNat) := rfl
def faAt (ti : TyI) (live : Bool) (tg : Id ⊕ Tag) (row : List AC) (i j : Nat) (o : Option (Nat × Nat × Bool)) : Option (Prop × AV) :=
  o.map fun q => match tg with
    | .inl id => ((ti.form = 5 ∧ 0 < q.2.1) ∧ live = true, .c (.pt id i (j + q.1)))
    | .inr t => (ti.form = 5 ∧ 0 < q.2.1, .c (.pv t row (j + q.1)))
@[simp] theorem rFieldA_pt {f : Nat} : rFieldA ti H f (.c (.pt id i j)) = ti.offs[f]?.map fun q => ((ti.form = 5 ∧ 0 < q.2.1) ∧ (H id).live = true, .c (.pt id i (j + q.1))) := by
  unfold rFieldA
  cases ti.offs[f]? <;> rfl
@[simp] theorem rFieldA_pv {f : Nat} : rFieldA ti H f (.c (.pv tg row j)) = ti.offs[f]?.map fun q => (ti.form = 5 ∧ 0 < q.2.1, .c (.pv tg row (j + q.1))) := by
  unfold rFieldA
  cases ti.offs[f]? <;> rfl
@[simp] theorem rField_go {f : Nat} : rField ti f (.g cs) = ti.offs[f]?.bind fun q => (rdRow q.2.2 q.2.1 cs q.1).map fun v => (ti.form = 5 ∧ 0 < q.2.1, v) := by
  unfold rField
  cases ti.offs[f]? <;> rfl
@[simp] theorem rIndexA_sl : rIndexA ti te eid H (.c (.sl tg cl xs)) (.c (.raw (.int k a))) = some ((ti.form = 2 ∧ te.ok = true ∧ te.sz = (xs.getD a.toNat []).length) ∧ 0 ≤ a ∧ a < xs.length, .c (.pv tg (xs.getD a.toNat []) 0)) := rfl
@[simp] theorem rIndexA_so : rIndexA ti te eid H (.c (.so id off len)) (.c (.raw (.int k a))) = some ((ti.form = 2 ∧ te.ok = true ∧ ∃ frz rows, H id = .arr eid te.sz frz rows) ∧ 0 ≤ a ∧ a < len, .c (.pt id (off + a.toNat) 0)) := rfl
@[simp] theorem rIndex_go : rIndex ti (.c (.str l)) (.c (.raw (.int k a))) = some (ti.form = 1 ∧ 0 ≤ a ∧ a < l.length, .c (.raw (.int .u8 (bts l a)))) := rfl
def exAt (o : Option (Bool × List AC)) : Option (Prop × AV) :=
  match o with
  | some (true, cs) => some (True, .g cs)
  | some (false, [c]) => some (True, .c c)
  | _ => none
@[simp] theorem rExtract_go {ps : List (Bool × List AC)} : rExtract i (.t ps) = exAt ps[i]? := rfl
@[simp] theorem exAt_g : exAt (some (true, cs)) = some (True, .g cs) := rfl
@[simp] theorem exAt_c : exAt (some (false, [c])) = some (True, .c c) := rfl
def ivA (o : Option AV) (d : Int) : Option Int :=
  match o with
  | none => some d
  | some (.c (.raw (.int _ i))) => some i
  | _ => none
@[simp] theorem rSlice_str {lo hi mx : Option AV} : rSlice ti te eid H (.c (.str l)) lo hi mx = (match lo.getD (.c (.raw (.int .i64 0))), hi.getD (.c (.raw (.int .i64 l.length))) with
    | .c (.raw (.int _ i)), .c (.raw (.int _ j)) => some (ti.form = 1 ∧ mx.isNone = true ∧ 0 ≤ i ∧ i ≤ j ∧ j ≤ l.length, .c (.str ((l.take j.toNat).drop i.toNat)))
    | _, _ => none) := rfl
@[simp] theorem rSlice_sl {lo hi mx : Option AV} : rSlice ti te eid H (.c (.sl tg cl xs)) lo hi mx = (match lo.getD (.c (.raw (.int .i64 0))), hi.getD (.c (.raw (.int .i64 xs.length))), mx with
    | .c (.raw (.int _ i)), .c (.raw (.int _ j)), none => some (ti.form = 2 ∧ te.ok = true ∧ (∀ r ∈ xs, r.length = te.sz) ∧ 0 ≤ i ∧ i ≤ j ∧ j ≤ xs.length, .c (.sl tg false ((xs.take j.toNat).drop i.toNat)))
    | .c (.raw (.int _ i)), .c (.raw (.int _ j)), some (.c (.raw (.int _ m))) => some (ti.form = 2 ∧ te.ok = true ∧ (∀ r ∈ xs, r.length = te.sz) ∧ 0 ≤ i ∧ i ≤ j ∧ j = m ∧ m ≤ xs.length ∧ hi.isSome = true, .c (.sl tg true ((xs.take j.toNat).drop i.toNat)))
    | _, _, _ => none) := rfl
@[simp] theorem rSlice_so {lo hi mx : Option AV} : rSlice ti te eid H (.c (.so id off len)) lo hi mx = (match lo.getD (.c (.raw (.int .i64 0))), hi.getD (.c (.raw (.int .i64 len))), mx with
    | .c (.raw (.int _ i)), .c (.raw (.int _ j)), none => some (ti.form = 2 ∧ te.ok = true ∧ (∃ sz frz rows, H id = .arr eid sz frz rows ∧ sz = te.sz) ∧ 0 ≤ i ∧ i ≤ j ∧ j ≤ len, .c (.so id (off + i.toNat) (j.toNat - i.toNat)))
    | _, _, _ => none) := rfl
@[simp] theorem rLen_str : rLen ti H (.c (.str l)) = some (ti.form = 1, .c (.raw (.int .i64 l.length))) := rfl
@[simp] theorem rLen_so : rLen ti H (.c (.so id off len)) = some (ti.form = 2 ∧ (H id).live = true, .c (.raw (.int .i64 len))) := rfl
@[simp] theorem rLen_sl : rLen ti H (.c (.sl tg cl xs)) = some (ti.form = 2, .c (.raw (.int .i64 xs.length))) := rfl
@[simp] theorem rLen_nil : rLen ti H (.c (.raw (.slice none 0 0))) = some (ti.form = 2, .c (.raw (.int .i64 0))) := rfl
end


/-! ### Two operands -/

variable {ti : TyI} {k : IntKind} {a b : Int}
theorem bin_add : abin ti .add (.c (.raw (.int k a))) (.c (.raw (.int k b))) = some (True, .raw (.int k (k.wrap (a + b)))) := by simp [abin, aint]
theorem bin_sub : abin ti .sub (.c (.raw (.int k a))) (.c (.raw (.int k b))) = some (True, .raw (.int k (k.wrap (a - b)))) := by simp [abin, aint]
theorem bin_mul : abin ti .mul (.c (.raw (.int k a))) (.c (.raw (.int k b))) = some (True, .raw (.int k (k.wrap (a * b)))) := by simp [abin, aint]
theorem bin_lss : abin ti .lss (.c (.raw (.int k a))) (.c (.raw (.int k b))) = some (True, .raw (.bool (decide (a < b)))) := by simp [abin, aint]
theorem bin_leq : abin ti .leq (.c (.raw (.int k a))) (.c (.raw (.int k b))) = some (True, .raw (.bool (decide (a ≤ b)))) := by simp [abin, aint]
theorem bin_gtr : abin ti .gtr (.c (.raw (.int k a))) (.c (.raw (.int k b))) = some (True, .raw (.bool (decide (b < a)))) := by simp [abin, aint]
theorem bin_geq : abin ti .geq (.c (.raw (.int k a))) (.c (.raw (.int k b))) = some (True, .raw (.bool (decide (b ≤ a)))) := by simp [abin, aint]
theorem bin_eql : abin ti .eql (.c (.raw (.int k a))) (.c (.raw (.int k b))) = some (True, .raw (.bool (decide (a = b)))) := by simp [abin, aint]
theorem bin_neq : abin ti .neq (.c (.raw (.int k a))) (.c (.raw (.int k b))) = some (True, .raw (.bool (!decide (a = b)))) := by simp [abin, aint]
def iand (k : IntKind) (a b : Int) : Int := k.wrap (BitVec.ofInt k.bits a &&& BitVec.ofInt k.bits b).toNat
def ior (k : IntKind) (a b : Int) : Int := k.wrap (BitVec.ofInt k.bits a ||| BitVec.ofInt k.bits b).toNat
theorem bin_and : abin ti .and (.c (.raw (.int k a))) (.c (.raw (.int k b))) = some (True, .raw (.int k (iand k a b))) := by simp [abin, aint, iand]
theorem bin_or : abin ti .or (.c (.raw (.int k a))) (.c (.raw (.int k b))) = some (True, .raw (.int k (ior k a b))) := by simp [abin, aint, ior]
theorem bin_shl {k' : IntKind} : abin ti .shl (.c (.raw (.int k a))) (.c (.raw (.int k' b))) = some (0 ≤ b, .raw (.int k (k.wrap (a * 2 ^ (min b.toNat k.bits))))) := by simp [abin]
theorem bin_shr {k' : IntKind} : abin ti .shr (.c (.raw (.int k a))) (.c (.raw (.int k' b))) = some (0 ≤ b, .raw (.int k (a.fdiv (2 ^ (min b.toNat k.bits))))) := by simp [abin]
theorem bin_quo : abin ti .quo (.c (.raw (.int k a))) (.c (.raw (.int k b))) = some (b ≠ 0, .raw (.int k (k.wrap (a.tdiv b)))) := by simp [abin]
theorem bin_rem : abin ti .rem (.c (.raw (.int k a))) (.c (.raw (.int k b))) = some (b ≠ 0, .raw (.int k (a.tmod b))) := by simp [abin]
variable {x y : List UInt8} {p q : Bool} {xs ys : List AC}
theorem bin_sadd : abin ti .add (.c (.str x)) (.c (.str y)) = some (x.length + y.length ≤ 9223372036854775807, .str (x ++ y)) := by simp [abin]
theorem bin_seql : abin ti .eql (.c (.str x)) (.c (.str y)) = some (True, .raw (.bool (decide (x = y)))) := by simp [abin]
theorem bin_sneq : abin ti .neq (.c (.str x)) (.c (.str y)) = some (True, .raw (.bool (!decide (x = y)))) := by simp [abin]
theorem bin_beql : abin ti .eql (.c (.raw (.bool p))) (.c (.raw (.bool q))) = some (ti.form = 4, .raw (.bool (p == q))) := by simp [abin]
theorem bin_bneq : abin ti .neq (.c (.raw (.bool p))) (.c (.raw (.bool q))) = some (ti.form = 4, .raw (.bool (p != q))) := by simp [abin]
theorem bin_g {op : BinOp} : abin ti op (.g xs) (.g ys) = aeq op (eqCells ti.eqs xs ys) ti.eqs := by simp [abin]


/-! ### The looks at cells -/

variable {H : Heap} {v v' : Value} {l l' : List UInt8} {t t' : Tag} {cl cl' : Bool} {rows rows' : List (List AC)} {id : Id} {off len e sz : Nat} {n : Int}

@[simp] theorem ofVal_int : ofVal (.int k n) = .raw (.int k n) := rfl
@[simp] theorem ofVal_bool : ofVal (.bool p) = .raw (.bool p) := rfl
@[simp] theorem ofVal_string {s : ByteArray} : ofVal (.string s) = .str s.data.toList := rfl
@[simp] theorem ofVal_slice {x : Option Addr} {i j : Nat} : ofVal (.slice x i j) = .raw (.slice x i j) := rfl
@[simp] theorem ofVal_tuple {vs : Array Value} : ofVal (.tuple vs) = .raw (.tuple vs) := rfl
@[simp] theorem ofVal_pointer {x : Option Addr} : ofVal (.pointer x) = .raw (.pointer x) := rfl
@[simp] theorem live_arr {f : Bool} : (OK.arr e sz f rows).live = true := rfl
@[simp] theorem live_dead : OK.dead.live = false := rfl
@[simp] theorem live_unborn : OK.unborn.live = false := rfl
@[simp] theorem cells_c {x : AC} : (AV.c x).cells = some [x] := rfl
@[simp] theorem cells_g {xs : List AC} : (AV.g xs).cells = some xs := rfl
@[simp] theorem viewL_nil : viewL H [] = some [] := rfl
@[simp] theorem viewL_cons {c : AC} {r : List AC} : viewL H (c :: r) = (match viewC H c, viewL H r with
    | some x, some xs => some (x :: xs)
    | _, _ => none) := rfl
@[simp] theorem viewA_nil : viewA H [] = some [] := rfl
@[simp] theorem viewA_cons {c : AV} {r : List AV} : viewA H (c :: r) = (match viewV H c, viewA H r with
    | some x, some xs => some (x :: xs)
    | _, _ => none) := rfl
section
variable {nm : Nat → Id} {i : Nat} {r : List AC}
@[simp] theorem flat_c {x : AC} : (AV.c x).flat = [x] := rfl
@[simp] theorem flat_g {xs : List AC} : (AV.g xs).flat = xs := rfl
@[simp] theorem flat_t {xs : List (Bool × List AC)} : (AV.t xs).flat = flatT xs := rfl
@[simp] theorem ad_c {x : AC} : (AV.c x).ad nm = .c (adC nm 0 x) := rfl
@[simp] theorem ad_g {xs : List AC} : (AV.g xs).ad nm = .g (adL nm 0 xs) := rfl
@[simp] theorem ad_t {xs : List (Bool × List AC)} : (AV.t xs).ad nm = .t (adT nm 0 xs) := rfl
@[simp] theorem adC_nw : adC nm i (.nw e sz rows) = .so (nm i) 0 rows.length := rfl
@[simp] theorem adC_raw : adC nm i (.raw v) = .raw v := rfl
@[simp] theorem adC_str : adC nm i (.str l) = .str l := rfl
@[simp] theorem adC_sl : adC nm i (.sl t cl rows) = .sl t cl rows := rfl
@[simp] theorem adH1_nw : adH1 id (.nw e sz rows) H = hset H id (.arr e sz false rows) := rfl
@[simp] theorem adH1_raw : adH1 id (.raw v) H = H := rfl
@[simp] theorem adH1_str : adH1 id (.str l) H = H := rfl
@[simp] theorem adH1_sl : adH1 id (.sl t cl rows) H = H := rfl
@[simp] theorem adUn_nil : adUn nm H i [] = True := rfl
@[simp] theorem adUn_nw : adUn nm H i (.nw e sz rows :: r) = (H (nm i) = .unborn ∧ adUn nm H (i + 1) r) := rfl
@[simp] theorem adUn_raw : adUn nm H i (.raw v :: r) = adUn nm H (i + 1) r := rfl
@[simp] theorem adUn_str : adUn nm H i (.str l :: r) = adUn nm H (i + 1) r := rfl
@[simp] theorem adUn_sl : adUn nm H i (.sl t cl rows :: r) = adUn nm H (i + 1) r := rfl
@[simp] theorem soIds_nil : soIds [] = [] := rfl
@[simp] theorem soIds_so : soIds (.so id off len :: r) = id :: soIds r := rfl
@[simp] theorem soIds_raw : soIds (.raw v :: r) = soIds r := rfl
@[simp] theorem soIds_str : soIds (.str l :: r) = soIds r := rfl
@[simp] theorem soIds_sl : soIds (.sl t cl rows :: r) = soIds r := rfl
end
@[simp] theorem exL_nil : exL H [] [] = True := rfl
@[simp] theorem exL_cons {c c' : AC} {r r' : List AC} : exL H (c :: r) (c' :: r') = (exC H c c' ∧ exL H r r') := rfl
@[simp] theorem exT_nil : exT H [] [] = True := rfl
@[simp] theorem exT_cons {b b' : Bool} {c c' : List AC} {r r' : List (Bool × List AC)} : exT H ((b, c) :: r) ((b', c') :: r') = (b = b' ∧ exL H c c' ∧ exT H r r') := rfl
@[simp] theorem bytesAC_nil : bytesAC [] = some [] := rfl
@[simp] theorem bytesAC_cons {r : List (List AC)} : bytesAC ([.raw (.int .u8 n)] :: r) = (bytesAC r).map fun l => UInt8.ofNat n.toNat :: l := rfl
@[simp] theorem exC_raw : exC H (.raw v) (.raw v') = (v = v') := by unfold exC; split <;> simp_all
@[simp] theorem exC_str : exC H (.str l) (.str l') = (l = l') := rfl
@[simp] theorem exC_so_nw : exC H (.so id off len) (.nw e sz rows) = (off = 0 ∧ H id = .arr e sz false rows ∧ len = rows.length) := rfl
@[simp] theorem exC_so_sl : exC H (.so id off len) (.sl t cl rows) = (t ≠ .brw ∧ cl = false ∧ rowsOf H (.so id off len) = some rows) := rfl
@[simp] theorem exC_nil_nw : exC H (.raw (.slice none 0 0)) (.nw e sz rows) = (rows = []) := rfl
@[simp] theorem exC_nil_sl : exC H (.raw (.slice none 0 0)) (.sl t cl rows) = (rows = []) := rfl
@[simp] theorem exC_sl_sl : exC H (.sl t cl rows) (.sl t' cl' rows') = (rows = rows' ∧ (t' = t ∨ (t = .new ∧ t' = .old)) ∧ t' ≠ .brw ∧ (cl' = true → cl = true)) := rfl
@[simp] theorem exV_c {x y : AC} : exV H (.c x) (.c y) = exC H x y := rfl
@[simp] theorem exV_g {x y : List AC} : exV H (.g x) (.g y) = exL H x y := rfl
@[simp] theorem exV_t {x y : List (Bool × List AC)} : exV H (.t x) (.t y) = exT H x y := rfl
@[simp] theorem retC_raw : RetC (.raw v) = True := by simp [RetC, retOK_raw]
@[simp] theorem retC_str : RetC (.str l) = True := by simp [RetC, retOK_str]
@[simp] theorem retC_sl : RetC (.sl t cl rows) = (t ≠ .brw ∧ ∀ r ∈ rows, ∀ c ∈ r, RetOK c) := by simp [RetC, retOK_sl]
@[simp] theorem retC_nw : RetC (.nw e sz rows) = (∀ r ∈ rows, ∀ c ∈ r, RetOK c) := rfl
attribute [simp] retOK_raw retOK_str retOK_sl
@[simp] theorem vok_raw : VOK (.raw v) = True := rfl
@[simp] theorem vok_str : VOK (.str l) = True := rfl
@[simp] theorem vok_sl : VOK (.sl t cl rows) = (∀ r ∈ rows, ∀ c ∈ r, OldOK c) := rfl
@[simp] theorem vok_fn {f : FuncId} {caps : List AC} : VOK (.fn f caps) = (∀ c ∈ caps, VOK1 c) := rfl
@[simp] theorem vok_pv {row : List AC} {i : Nat} : VOK (.pv t row i) = (∀ c ∈ row, VOK0 c) := rfl
@[simp] theorem vok1_pv {row : List AC} {i : Nat} : VOK1 (.pv t row i) = (∀ c ∈ row, VOK0 c) := rfl
@[simp] theorem vok1_raw : VOK1 (.raw v) = True := rfl
@[simp] theorem vok1_str : VOK1 (.str l) = True := rfl
@[simp] theorem vok1_sl : VOK1 (.sl t cl rows) = (∀ r ∈ rows, ∀ c ∈ r, OldOK c) := rfl
@[simp] theorem vok0_raw : VOK0 (.raw v) = True := rfl
@[simp] theorem vok0_str : VOK0 (.str l) = True := rfl
@[simp] theorem vok0_sl : VOK0 (.sl t cl rows) = (∀ r ∈ rows, ∀ c ∈ r, OldOK c) := rfl
@[simp] theorem rowsOf_sl : rowsOf H (.sl t cl rows) = some rows := rfl
def rowsAt (o : OK) (off len : Nat) : Option (List (List AC)) :=
  match o with
  | .arr _ _ _ rows => if off + len ≤ rows.length then some ((rows.drop off).take len) else none
  | _ => none
@[simp] theorem rowsOf_so : rowsOf H (.so id off len) = rowsAt (H id) off len := rfl
@[simp] theorem rowsAt_go {f : Bool} : rowsAt (.arr e sz f rows) off len = if off + len ≤ rows.length then some ((rows.drop off).take len) else none := rfl
@[simp] theorem rowsOf_nil : rowsOf H (.raw (.slice none 0 0)) = some [] := rfl
@[simp] theorem viewC_nil : viewC H (.raw (.slice none 0 0)) = some (.sl .brw false []) := rfl
@[simp] theorem viewC_int : viewC H (.raw (.int k n)) = some (.raw (.int k n)) := rfl
@[simp] theorem viewC_bool : viewC H (.raw (.bool p)) = some (.raw (.bool p)) := rfl
@[simp] theorem viewC_str : viewC H (.str l) = some (.str l) := rfl
@[simp] theorem viewC_sl : viewC H (.sl t cl rows) = some (.sl .brw false rows) := rfl
@[simp] theorem viewC_so : viewC H (.so id off len) = (rowsOf H (.so id off len)).map fun rows => .sl .brw false rows := rfl
@[simp] theorem viewV_g : viewV H (.g xs) = (viewL H xs).map .g := rfl
@[simp] theorem viewV_fn {f : FuncId} {caps : List AC} : viewV H (.c (.fn f caps)) = (viewPL H caps).map fun cs => .c (.fn f cs) := rfl
def viewAt (o : OK) (i j : Nat) : Option AC :=
  match o with
  | .arr _ _ _ rows => match rows[i]? with
      | some row => (viewL noHeap row).map fun cs => .pv .brw cs j
      | none => none
  | _ => none
def viewRow (o : Option (List AC)) (j : Nat) : Option AC := o.bind fun row => (viewL noHeap row).map fun cs => .pv .brw cs j
@[simp] theorem viewRow_go {row : List AC} {j : Nat} : viewRow (some row) j = (viewL noHeap row).map fun cs => .pv .brw cs j := rfl
@[simp] theorem viewP_pt {i j : Nat} : viewP H (.pt id i j) = viewAt (H id) i j := rfl
@[simp] theorem viewAt_go {f : Bool} {i j : Nat} : viewAt (.arr e sz f rows) i j = viewRow rows[i]? j := by
  show (match rows[i]? with
      | some row => (viewL noHeap row).map fun cs => AC.pv .brw cs j
      | none => none) = _
  unfold viewRow
  generalize rows[i]? = o
  cases o <;> rfl
@[simp] theorem viewP_pv {row : List AC} {j : Nat} : viewP H (.pv t row j) = (viewL noHeap row).map fun cs => .pv .brw cs j := rfl
@[simp] theorem viewP_raw : viewP H (.raw v) = viewC H (.raw v) := rfl
@[simp] theorem viewP_str : viewP H (.str l) = some (.str l) := rfl
@[simp] theorem viewP_sl : viewP H (.sl t cl rows) = some (.sl .brw false rows) := rfl
@[simp] theorem viewP_so : viewP H (.so id off len) = viewC H (.so id off len) := rfl
@[simp] theorem viewPL_nil : viewPL H [] = some [] := rfl
@[simp] theorem viewPL_cons {c : AC} {r : List AC} : viewPL H (c :: r) = (match viewP H c, viewPL H r with
    | some x, some xs => some (x :: xs)
    | _, _ => none) := rfl
@[simp] theorem viewV_pt {i j : Nat} : viewV H (.c (.pt id i j)) = (viewP H (.pt id i j)).map .c := rfl
@[simp] theorem viewV_pv {row : List AC} {j : Nat} : viewV H (.c (.pv t row j)) = (viewP H (.pv t row j)).map .c := rfl
@[simp] theorem viewV_raw : viewV H (.c (.raw v)) = (viewC H (.raw v)).map .c := rfl
@[simp] theorem viewV_str : viewV H (.c (.str l)) = some (.c (.str l)) := rfl
@[simp] theorem viewV_sl : viewV H (.c (.sl t cl rows)) = some (.c (.sl .brw false rows)) := rfl
@[simp] theorem viewV_so : viewV H (.c (.so id off len)) = (viewC H (.so id off len)).map .c := rfl
@[simp] theorem one_raw : AC.one H (.raw v) = v.oneCell' := rfl
@[simp] theorem one_str : AC.one H (.str l) = true := rfl
@[simp] theorem one_sl : AC.one H (.sl t cl rows) = true := rfl
@[simp] theorem one_so : AC.one H (.so id off len) = (H id).live := rfl
@[simp] theorem one_fn {f : FuncId} {caps : List AC} : AC.one H (.fn f caps) = true := rfl
@[simp] theorem resV_tmp {i : Nat} : resV P st (.tmp i) = some (st.s i) := rfl
def resAt (ti : TyI) (H : Heap) (v : AV) : Option AV :=
  match v with
  | .c (.pt id i j) => match H id with
      | .arr _ _ _ rows => match rows[i]? with
        | some row => if ti.ok = true then rdRow ti.ag ti.sz row j else none
        | none => none
      | _ => none
  | _ => none
def resRow (ti : TyI) (j : Nat) (o : Option (List AC)) : Option AV := o.bind fun row => if ti.ok = true then rdRow ti.ag ti.sz row j else none
@[simp] theorem resRow_go {ti : TyI} {j : Nat} {row : List AC} : resRow ti j (some row) = if ti.ok = true then rdRow ti.ag ti.sz row j else none := rfl
@[simp] theorem resV_cell {x : Nat} {ty : TypeId} : resV P st (.cell x ty) = resAt (tyI P ty) st.H (st.s x) := rfl
@[simp] theorem resAt_go {ti : TyI} {i j : Nat} : resAt ti H (.c (.pt id i j)) = resRow ti j (rObj H id i) := by
  show (match H id with
      | .arr _ _ _ rows => match rows[i]? with
        | some row => if ti.ok = true then rdRow ti.ag ti.sz row j else none
        | none => none
      | _ => none) = _
  unfold resRow rObj
  generalize H id = o
  cases o with
  | arr e sz f rows =>
    simp only
    generalize rows[i]? = q
    cases q <;> rfl
  | _ => rfl
@[simp] theorem part_c {x : AC} : (AV.c x).part = some (false, [x]) := rfl
@[simp] theorem part_g {xs : List AC} : (AV.g xs).part = some (true, xs) := rfl
@[simp] theorem resL_nil : resL P st [] = some [] := rfl
@[simp] theorem resL_cons {r : ResultVar} {rs : List ResultVar} : resL P st (r :: rs) = (match (resV P st r).bind AV.part, resL P st rs with
    | some p, some ps => some (p :: ps)
    | _, _ => none) := by rfl
@[simp] theorem oneCell_int : (Value.int k n).oneCell' = true := rfl
@[simp] theorem oneCell_bool : (Value.bool p).oneCell' = true := rfl
@[simp] theorem oneCell_nil : (Value.slice none 0 0).oneCell' = true := rfl
def onG (v : AV) (want : Bool) (y n1 n2 : Prop) : Prop :=
  match v with
  | .c (.raw (.bool b)) => (b = want → y) ∧ (b = !want → n1)
  | .c (.raw (.tuple _)) => n2
  | _ => False
@[simp] theorem onG_boolT {y n1 n2 : Prop} : onG (.c (.raw (.bool p))) true y n1 n2 = onIf p y n1 := rfl
@[simp] theorem onG_boolF {y n1 n2 : Prop} : onG (.c (.raw (.bool p))) false y n1 n2 = onUn p y n1 := rfl
@[simp] theorem onG_undef {want : Bool} {y n1 n2 : Prop} {vs : Array Value} : onG (.c (.raw (.tuple vs))) want y n1 n2 = n2 := rfl
@[congr] theorem onG_cg {v v' : AV} {want : Bool} {y n1 n2 : Prop} (h : v = v') : onG v want y n1 n2 = onG v' want y n1 n2 := by rw [h]
theorem agd_go {j : Nat} {want : Bool} {y n : St → Prop} : agd (some j) want st y n = onG (st.s j) want (y (st.put (some j) (.c (.raw (.bool want))))) (n (st.put (some j) (.c (.raw (.bool (!want)))))) (n st) := by
  unfold agd
  simp only
  generalize st.s j = v
  cases v with
  | c c => cases c with
    | raw u => cases u <;> rfl
    | _ => rfl
  | _ => rfl
@[simp] theorem undef_eq : undef = Value.tuple #[] := rfl

attribute [simp ↓] newObj_gon agd_go go_slice go_move go_assign go_pick go_alloc go_box go_build go_buildSlice go_load go_store go_nilCheck go_bin_t go_bin_i go_bin_b go_bin_s go_bin_nil go_not go_convert go_makeFunc go_makeSlice go_fieldAddr go_field go_indexAddr go_index go_extract go_call go_callS go_cond go_builtin go_len
attribute [simp]
  bin_add bin_sub bin_mul bin_lss bin_leq bin_gtr bin_geq bin_eql bin_neq bin_and bin_or bin_shl bin_shr bin_quo bin_rem bin_sadd bin_seql bin_sneq bin_beql bin_bneq bin_g

end Go.AE

/- The abstract machine: loops, rows of texts and numbers. -/
set_option linter.unusedVariables false
set_option linter.unusedSimpArgs false
namespace Go.AE
open Go

variable {P : Program} {F : CT} {st : St}

theorem callS_mono {dr : Bool} {dst : Option Nat} {f : FuncId} {args : List AV} {K K' : St → Prop} (hk : ∀ st, K st → K' st) (h : CallS P F dr st dst f args K) : CallS P F dr st dst f args K' := by
  unfold CallS at *
  split at h
  · split at h
    · split at h
      · exact ⟨h.1, h.2.1, h.2.2.1, hk _ h.2.2.2⟩
      · exact h
    · exact h
  · split at h
    · exact ⟨h.1, h.2.1, h.2.2.1, hk _ h.2.2.2⟩
    · exact h
  · exact acall_mono hk h

theorem dstepS_mono {o : SO} {st : St} {K K' : List Id → St → Prop} (hk : ∀ W st, K W st → K' W st) (h : dstepS P F o st K) : dstepS P F o st K' := by
  unfold dstepS at h ⊢
  split at h
  · split at h
    · split at h
      · split at h
        · split at h
          · exact ⟨h.1, h.2.1, h.2.2.1, hk _ _ h.2.2.2⟩
          · exact h
        · exact h
      · exact h
    · exact h
  · split at h
    · exact aop_mono (fun st h => hk _ _ h) h
    · exact h
  · exact h

theorem stepS_mono {dr : Bool} {dst : Option Nat} {op : Op} {K K' : St → Prop} (hk : ∀ st, K st → K' st) (h : stepS P F dr dst op st K) : stepS P F dr dst op st K' := by
  cases op
  case call c =>
    simp only [stepS] at h ⊢
    split at h
    · exact abi_mono hk h
    · split at h
      · exact callS_mono hk h
      · exact h.elim
    · exact h.elim
  case binOp op t x y t' =>
    simp only [stepS] at h ⊢
    split at h
    · rename_i e; rw [if_pos e]; exact ⟨h.1, aNil_mono hk h.2⟩
    · rename_i e; rw [if_neg e]; exact aop_mono hk h
  all_goals (simp only [stepS] at h ⊢; exact aop_mono hk h)

theorem opsS_mono {dr : Bool} : ∀ {l : List SO} {K K' : St → Prop} {st : St}, (∀ st, K st → K' st) → opsS P F dr l K st → opsS P F dr l K' st
  | [], K, K', st, hk, h => hk _ h
  | o :: l, K, K', st, hk, h => by
    unfold opsS at h ⊢
    split at h
    · exact stepS_mono (fun st h => opsS_mono hk h) h
    · exact agd_mono (fun st h => stepS_mono (fun st h => opsS_mono hk h) h) (fun st h => opsS_mono hk h) h

theorem opsD_mono {js : List Nat} {prs : List (Nat × Nat)} : ∀ {l : List SO} {i : Nat} {W : List (Nat × Id)} {N : List (Nat × AV)} {K K' : List (Nat × Id) → List (Nat × AV) → St → Prop} {st : St}, (∀ W N st, K W N st → K' W N st) → opsD P F js prs l i W N K st → opsD P F js prs l i W N K' st
  | [], i, W, N, K, K', st, hk, h => hk _ _ _ h
  | o :: l, i, W, N, K, K', st, hk, h => by
    unfold opsD at h ⊢
    split
    · rename_i hj
      rw [if_pos hj] at h
      exact dstepS_mono (fun W st h => opsD_mono hk h) h
    · rename_i hj
      rw [if_neg hj] at h
      split at h
      · exact stepS_mono (fun st h => opsD_mono hk h) h
      · exact agd_mono (fun st h => stepS_mono (fun st h => opsD_mono hk h) h) (fun st h => opsD_mono hk h) h

theorem awpS_mono : ∀ {c : SC} {Q Q' : AEx → St → Prop} {st : St}, (∀ e st, Q e st → Q' e st) → awpS P F c Q st → awpS P F c Q' st
  | .skip, Q, Q', st, hq, h => hq _ _ h
  | .region id ops d, Q, Q', st, hq, h => opsS_mono (fun st h => hq _ _ h) h
  | .seq x y, Q, Q', st, hq, h => awpS_mono (c := x) (fun e st h => by cases e <;> first | exact awpS_mono (c := y) hq h | exact hq _ _ h) h
  | .cond c x y, Q, Q', st, hq, h => by
    unfold awpS at h ⊢
    split at h
    · exact ⟨fun e => awpS_mono (c := x) hq (h.1 e), fun e => awpS_mono (c := y) hq (h.2 e)⟩
    · exact h
  | .block id x, Q, Q', st, hq, h => awpS_mono (c := x) (fun e st h => by
      cases e with
      | exit j =>
        simp only [ablock] at h ⊢
        split
        · rename_i hj; rw [if_pos hj] at h; exact hq _ _ h
        · rename_i hj; rw [if_neg hj] at h; exact hq _ _ h
      | _ => exact hq _ _ h) h
  | .loop x, Q, Q', st, hq, h => by
    obtain ⟨I, μ, h1, h2⟩ := h
    exact ⟨I, μ, h1, fun st' hi => awpS_mono (c := x) (fun e st h => by cases e <;> first | exact h | exact hq _ _ h) (h2 st' hi)⟩
  | .exit id, Q, Q', st, hq, h => hq _ _ h
  | .ret, Q, Q', st, hq, h => hq _ _ h
  | .no, _, _, _, _, h => h.elim
  | .regionK id ops js prs, Q, Q', st, hq, h => opsD_mono (fun W N st h => ⟨h.1, hq _ _ h.2⟩) h

/-- A loop with a measure that falls. -/
theorem loop_n {x : SC} {Q : AEx → St → Prop} (I : Nat → St → Prop) (n : Nat) (h0 : I n st) (h : ∀ n st', I n st' → awpS P F x (athen (fun st'' => ∃ m, m < n ∧ I m st'') Q) st') : awpS P F (.loop x) Q st := by
  classical
  have least : ∀ (m : Nat) st, I m st → ∃ k, I k st ∧ ∀ j, I j st → k ≤ j := by
    intro m
    induction m using Nat.strongRecOn with
    | _ m ih =>
      intro st hm
      by_cases hq : ∃ j, j < m ∧ I j st
      · obtain ⟨j, hj, hI⟩ := hq
        exact ih j hj st hI
      · exact ⟨m, hm, fun j hj => Nat.le_of_not_lt fun hlt => hq ⟨j, hlt, hj⟩⟩
  let μ : St → Nat := fun st => if hq : ∃ m, I m st then Classical.choose (least (Classical.choose hq) st (Classical.choose_spec hq)) else 0
  have hμ : ∀ m st, I m st → I (μ st) st ∧ μ st ≤ m := fun m st hm => by
    have hq : ∃ m, I m st := ⟨m, hm⟩
    have := Classical.choose_spec (least (Classical.choose hq) st (Classical.choose_spec hq))
    have e : μ st = Classical.choose (least (Classical.choose hq) st (Classical.choose_spec hq)) := by simp only [μ]; rw [dif_pos hq]
    rw [e]
    exact ⟨this.1, this.2 m hm⟩
  refine ⟨fun st => ∃ m, I m st, μ, ⟨n, h0⟩, fun st' ⟨m, hm⟩ => ?_⟩
  refine awpS_mono (fun e st'' q => ?_) (h (μ st') st' (hμ m st' hm).1)
  cases e with
  | normal =>
    obtain ⟨m', hlt, hm'⟩ := q
    exact ⟨⟨m', hm'⟩, Nat.lt_of_le_of_lt (hμ m' st'' hm').2 hlt⟩
  | _ => exact q

/-! ### Rows of what is told by values -/

/-- Values that stand in rows. -/
class Enc (α : Type) where
  w : Nat
  row : α → List AC
  dec : List AC → Option α
  dec_row : ∀ a, dec (row a) = some a
  row_dec : ∀ {r : List AC} {a : α}, dec r = some a → r = row a
  len : ∀ a, (row a).length = w
  old : ∀ a, ∀ c ∈ row a, OldOK c
  ret : ∀ a, ∀ c ∈ row a, RetOK c

section
variable {α : Type} [Enc α]

def rowsE (l : List α) : List (List AC) := l.map Enc.row

def decE : List (List AC) → Option (List α)
  | [] => some []
  | r :: rs => match Enc.dec r, decE rs with
    | some a, some l => some (a :: l)
    | _, _ => none

@[simp] theorem rowsE_length (l : List α) : (rowsE l).length = l.length := by simp [rowsE]
@[simp] theorem rowsE_nil : rowsE ([] : List α) = [] := rfl
@[simp] theorem decE_rows : ∀ l : List α, decE (rowsE l) = some l
  | [] => rfl
  | s :: l => by
    have := decE_rows l
    unfold rowsE at this
    simp [rowsE, decE, this, Enc.dec_row]
theorem decE_some : ∀ {r : List (List AC)} {l : List α}, decE r = some l → r = rowsE l
  | [], l, h => by simp [decE] at h; subst h; rfl
  | r :: rs, l, h => by
    unfold decE at h
    split at h
    · rename_i a l' h1 h2
      cases h
      rw [decE_some h2, Enc.row_dec h1]; rfl
    · cases h
@[simp] theorem rowsE_elem {l : List α} {i : Nat} (h : i < (rowsE l).length) : (rowsE l)[i] = Enc.row (l[i]'(by simpa using h)) := by simp [rowsE]
@[simp] theorem rowsE_at {l : List α} {i : Nat} (h : i < l.length) : (rowsE l)[i]?.getD [] = Enc.row l[i] := by simp [rowsE, h]
@[simp] theorem rowsE_get? {l : List α} {i : Nat} : (rowsE l)[i]? = (l[i]?).map Enc.row := by simp [rowsE]
@[simp] theorem rowsE_old {l : List α} : (∀ r ∈ rowsE l, ∀ c ∈ r, OldOK c) ↔ True := by simp only [rowsE, List.mem_map, iff_true]; rintro r ⟨a, _, rfl⟩; exact Enc.old a
@[simp] theorem rowsE_ret {l : List α} : (∀ r ∈ rowsE l, ∀ c ∈ r, RetOK c) ↔ True := by simp only [rowsE, List.mem_map, iff_true]; rintro r ⟨a, _, rfl⟩; exact Enc.ret a
@[simp] theorem rowsE_len {l : List α} {n : Nat} (h : n = Enc.w α) : (∀ r ∈ rowsE l, r.length = n) ↔ True := by
  subst h
  simp only [rowsE, List.mem_map, iff_true]
  rintro r ⟨a, _, rfl⟩
  exact Enc.len a
theorem rowsE_append (l m : List α) : rowsE (l ++ m) = rowsE l ++ rowsE m := by simp [rowsE]
theorem rowsE_one (a : α) : [Enc.row a] = rowsE [a] := rfl
theorem rowsE_snoc (l : List α) (a : α) : rowsE l ++ [Enc.row a] = rowsE (l ++ [a]) := by simp [rowsE]
theorem rowsE_set (l : List α) (i : Nat) (a : α) : (rowsE l).set i (Enc.row a) = rowsE (l.set i a) := by simp [rowsE, List.map_set]
theorem rowsE_drop (l : List α) (i : Nat) : (rowsE l).drop i = rowsE (l.drop i) := by simp [rowsE, List.map_drop]
theorem rowsE_take (l : List α) (i : Nat) : (rowsE l).take i = rowsE (l.take i) := by simp [rowsE, List.map_take]
theorem rowsE_replicate (n : Nat) (a : α) : List.replicate n (Enc.row a) = rowsE (List.replicate n a) := by simp [rowsE]
@[simp] theorem rowsE_inj {l m : List α} : rowsE l = rowsE m ↔ l = m :=
  ⟨fun h => by have := congrArg (decE (α := α)) h; simpa using this, fun h => by rw [h]⟩
@[simp] theorem rowsE_nil_iff {l : List α} : rowsE l = [] ↔ l = [] := by simp [rowsE]
end

instance encS : Enc (List UInt8) where
  w := 1
  row s := [.str s]
  dec | [.str s] => some s | _ => none
  dec_row _ := rfl
  row_dec {r a} h := by split at h <;> simp_all
  len _ := rfl
  old a c hc := by simp at hc; subst hc; exact .str _
  ret a c hc := by simp at hc; subst hc; exact .str _

instance encI : Enc Int where
  w := 1
  row n := [.raw (.int .i64 n)]
  dec | [.raw (.int .i64 n)] => some n | _ => none
  dec_row _ := rfl
  row_dec {r a} h := by split at h <;> simp_all
  len _ := rfl
  old a c hc := by simp at hc; subst hc; exact .raw _
  ret a c hc := by simp at hc; subst hc; exact .raw _

@[simp] theorem row_S (s : List UInt8) : Enc.row s = [AC.str s] := rfl
@[simp] theorem row_I (n : Int) : Enc.row n = [AC.raw (.int .i64 n)] := rfl
@[simp] theorem w_S : Enc.w (List UInt8) = 1 := rfl
@[simp] theorem w_I : Enc.w Int = 1 := rfl

/-- Two lists are one, place by place. -/
theorem eq_step {α : Type} {a b : List α} {i : Nat} (h : a.take i = b.take i) (ha : i < a.length) (hb : i < b.length) (he : a[i] = b[i]) : a.take (i + 1) = b.take (i + 1) := by
  rw [List.take_add_one, List.take_add_one, h]; simp [ha, hb, he]

theorem wrap64_id {n : Int} (h1 : -9223372036854775808 ≤ n) (h2 : n ≤ 9223372036854775807) : IntKind.wrap .i64 n = n := by
  have : IntKind.wrap .i64 n = if n % 18446744073709551616 ≥ 9223372036854775808 then n % 18446744073709551616 - 18446744073709551616 else n % 18446744073709551616 := by
    simp [IntKind.wrap, IntKind.bits, IntKind.signed]
  rw [this]
  split <;> omega

attribute [simp] Int.natCast_inj Int.ofNat_inj

/-- What append makes: the heap ahead of the new object, its type, its cells, its rows. -/
def apAt (e : TypeId) (te : TyI) (teq same : Prop) (H : Heap) (id : Id) (n : Nat) (ys : List (List AC)) (o : OK) : Option (Prop × (Heap × Nat × Nat × List (List AC))) :=
  match o with
  | .arr e' sz false xs => some (teq ∧ e' = e ∧ sz = te.sz ∧ te.ok = true ∧ (∀ r ∈ ys, r.length = sz) ∧ 0 < sz ∧ n = xs.length ∧ ¬ same ∧
      xs.length + ys.length ≤ 9223372036854775807 ∧ (xs.length + ys.length) * te.bytes ≤ 140737488355328, (hset H id .dead, e', sz, xs ++ ys))
  | _ => none
def rApp (e : TypeId) (te : TyI) (teq : Prop) (H : Heap) (x y : AV) (ys : Option (List (List AC))) : Option (Prop × (Heap × Nat × Nat × List (List AC))) :=
  match x, ys with
  | .c (.raw (.slice none 0 0)), some ys => some (teq ∧ te.ok = true ∧ (∀ r ∈ ys, r.length = te.sz) ∧ 0 < te.sz ∧ ys.length ≤ 9223372036854775807 ∧ ys.length * te.bytes ≤ 140737488355328, (H, e, te.sz, ys))
  | .c (.sl _ true xs), some ys => some (teq ∧ te.ok = true ∧ (∀ r ∈ xs, r.length = te.sz) ∧ (∀ r ∈ ys, r.length = te.sz) ∧ 0 < te.sz ∧ (0 < ys.length ∨ xs = []) ∧
        xs.length + ys.length ≤ 9223372036854775807 ∧ (xs.length + ys.length) * te.bytes ≤ 140737488355328, (H, e, te.sz, xs ++ ys))
  | .c (.so id 0 n), some ys => apAt e te teq (y = .c (.so id 0 n)) H id n ys (H id)
  | _, _ => none
section
variable {e : TypeId} {te : TyI} {teq : Prop} {H : Heap} {y : AV} {ys xs : List (List AC)} {tg : Tag} {id : Id} {n : Nat}
@[simp] theorem rApp_nil : rApp e te teq H (.c (.raw (.slice none 0 0))) y (some ys) = some (teq ∧ te.ok = true ∧ (∀ r ∈ ys, r.length = te.sz) ∧ 0 < te.sz ∧ ys.length ≤ 9223372036854775807 ∧ ys.length * te.bytes ≤ 140737488355328, (H, e, te.sz, ys)) := rfl
@[simp] theorem rApp_sl : rApp e te teq H (.c (.sl tg true xs)) y (some ys) = some (teq ∧ te.ok = true ∧ (∀ r ∈ xs, r.length = te.sz) ∧ (∀ r ∈ ys, r.length = te.sz) ∧ 0 < te.sz ∧ (0 < ys.length ∨ xs = []) ∧
        xs.length + ys.length ≤ 9223372036854775807 ∧ (xs.length + ys.length) * te.bytes ≤ 140737488355328, (H, e, te.sz, xs ++ ys)) := rfl
@[simp] theorem rApp_so : rApp e te teq H (.c (.so id 0 n)) y (some ys) = apAt e te teq (y = .c (.so id 0 n)) H id n ys (H id) := rfl
@[simp] theorem apAt_go {e' sz : Nat} {same : Prop} : apAt e te teq same H id n ys (.arr e' sz false xs) = some (teq ∧ e' = e ∧ sz = te.sz ∧ te.ok = true ∧ (∀ r ∈ ys, r.length = sz) ∧ 0 < sz ∧ n = xs.length ∧ ¬ same ∧
      xs.length + ys.length ≤ 9223372036854775807 ∧ (xs.length + ys.length) * te.bytes ≤ 140737488355328, (hset H id .dead, e', sz, xs ++ ys)) := rfl
end
def rowsV (H : Heap) (v : AV) : Option (List (List AC)) :=
  match v with
  | .c c => rowsOf H c
  | _ => none
@[simp] theorem rowsV_go {H : Heap} {c : AC} : rowsV H (.c c) = rowsOf H c := rfl
theorem go_append {d : Nat} {K : St → Prop} {x y : Operand} {t t' : TypeId} : abi P (some d) .append [x, y] [t, t'] st K =
    onP (rApp (tyI P t).elem (tyI P (tyI P t).elem) ((tyI P t).form = 2 ∧ t' = t) st.H (st.eval x) (st.eval y) (rowsV st.H (st.eval y))) fun r => newObj (st.hto r.1) (some d) r.2.1 r.2.2.1 r.2.2.2 (fun id => .so id 0 r.2.2.2.length) K := by
  simp only [abi]
  generalize hy : st.eval y = yv
  have go : ∀ u : Option (List (List AC)), (match st.eval x, u, some d with
    | .c (.raw (.slice none 0 0)), some ys, some d =>
      ((tyI P t).form = 2 ∧ t' = t ∧ (tyI P (tyI P t).elem).ok = true ∧ (∀ r ∈ ys, r.length = (tyI P (tyI P t).elem).sz) ∧ 0 < (tyI P (tyI P t).elem).sz ∧ ys.length ≤ 9223372036854775807 ∧ ys.length * (tyI P (tyI P t).elem).bytes ≤ 140737488355328) ∧
        newObj st (some d) (tyI P t).elem (tyI P (tyI P t).elem).sz ys (fun id => .so id 0 ys.length) K
    | .c (.sl _ true xs), some ys, some d =>
      ((tyI P t).form = 2 ∧ t' = t ∧ (tyI P (tyI P t).elem).ok = true ∧ (∀ r ∈ xs, r.length = (tyI P (tyI P t).elem).sz) ∧ (∀ r ∈ ys, r.length = (tyI P (tyI P t).elem).sz) ∧ 0 < (tyI P (tyI P t).elem).sz ∧ (0 < ys.length ∨ xs = []) ∧
        xs.length + ys.length ≤ 9223372036854775807 ∧ (xs.length + ys.length) * (tyI P (tyI P t).elem).bytes ≤ 140737488355328) ∧
        newObj st (some d) (tyI P t).elem (tyI P (tyI P t).elem).sz (xs ++ ys) (fun id => .so id 0 (xs.length + ys.length)) K
    | .c (.so id 0 n), some ys, some d =>
      match st.H id with
      | .arr e sz false xs =>
        ((tyI P t).form = 2 ∧ t' = t ∧ e = (tyI P t).elem ∧ sz = (tyI P (tyI P t).elem).sz ∧ (tyI P (tyI P t).elem).ok = true ∧ (∀ r ∈ ys, r.length = sz) ∧ 0 < sz ∧ n = xs.length ∧ yv ≠ .c (.so id 0 n) ∧
          xs.length + ys.length ≤ 9223372036854775807 ∧ (xs.length + ys.length) * (tyI P (tyI P t).elem).bytes ≤ 140737488355328) ∧
          newObj { st with H := hset st.H id .dead } (some d) e sz (xs ++ ys) (fun id => .so id 0 (xs.length + ys.length)) K
      | _ => False
    | _, _, _ => False) = onP (rApp (tyI P t).elem (tyI P (tyI P t).elem) ((tyI P t).form = 2 ∧ t' = t) st.H (st.eval x) yv u) fun r => newObj (st.hto r.1) (some d) r.2.1 r.2.2.1 r.2.2.2 (fun id => .so id 0 r.2.2.2.length) K := fun u => by
    generalize st.eval x = v
    cases u with
    | none =>
      cases v with
      | c c => cases c with
        | raw w => cases w with
          | slice a b c => cases a <;> cases b <;> cases c <;> rfl
          | _ => rfl
        | sl _ b _ => cases b <;> rfl
        | so id off n => cases off <;> rfl
        | _ => rfl
      | _ => rfl
    | some ys =>
      cases v with
      | c c => cases c with
        | raw w => cases w with
          | slice a b c =>
            cases a with
            | some a => rfl
            | none => cases b with
              | zero => cases c with
                | zero => simp only [rApp_nil, onP_go, and_assoc]; rfl
                | succ c => rfl
              | succ b => rfl
          | _ => rfl
        | sl tg b xs => cases b with
          | false => rfl
          | true => simp only [rApp_sl, onP_go, and_assoc, List.length_append]; rfl
        | so id off n => cases off with
          | succ o => rfl
          | zero =>
            simp only [rApp_so]
            cases st.H id with
            | arr ee sz f xs => cases f with
              | true => rfl
              | false => simp only [apAt_go, onP_go, and_assoc, List.length_append, ne_eq]; rfl
            | _ => rfl
        | _ => rfl
      | _ => rfl
  exact go (rowsV st.H yv)

def cpAt (t : TyI) (te : TyI) (H : Heap) (id : Id) (off len : Nat) (ys : List (List AC)) (o : OK) : Option (Prop × (Heap × Nat)) :=
  match o with
  | .arr e sz false rows => some (t.form = 2 ∧ sz = te.sz ∧ te.ok = true ∧ (∀ r ∈ ys, r.length = sz) ∧ 0 < sz ∧ off + len ≤ rows.length, (hset H id (.arr e sz false (rows.take off ++ ys.take len ++ rows.drop (off + min len ys.length))), min len ys.length))
  | _ => none
def rCopy (t te : TyI) (H : Heap) (x : AV) (ys : Option (List (List AC))) : Option (Prop × (Heap × Nat)) :=
  match x, ys with
  | .c (.so id off len), some ys => cpAt t te H id off len ys (H id)
  | _, _ => none
@[simp] theorem rCopy_go {t te : TyI} {H : Heap} {id : Id} {off len : Nat} {ys : List (List AC)} : rCopy t te H (.c (.so id off len)) (some ys) = cpAt t te H id off len ys (H id) := rfl
@[simp] theorem cpAt_go {t te : TyI} {H : Heap} {id : Id} {off len e sz : Nat} {ys rows : List (List AC)} : cpAt t te H id off len ys (.arr e sz false rows) = some (t.form = 2 ∧ sz = te.sz ∧ te.ok = true ∧ (∀ r ∈ ys, r.length = sz) ∧ 0 < sz ∧ off + len ≤ rows.length, (hset H id (.arr e sz false (rows.take off ++ ys.take len ++ rows.drop (off + min len ys.length))), min len ys.length)) := rfl
theorem go_copy {dst : Option Nat} {K : St → Prop} {x y : Operand} {t t' : TypeId} : abi P dst .copy [x, y] [t, t'] st K =
    onP (rCopy (tyI P t) (tyI P (tyI P t).elem) st.H (st.eval x) (rowsV st.H (st.eval y))) fun r => K ((st.hto r.1).put dst (.c (.raw (.int .i64 ((r.2 : Nat) : Int))))) := by
  simp only [abi]
  generalize st.eval x = v
  generalize st.eval y = q
  cases q with
  | c cc =>
    simp only [rowsV_go]
    generalize rowsOf st.H cc = u
    cases v with
    | c c =>
      cases c with
      | so id off len =>
        cases u with
        | none => rfl
        | some ys =>
          simp only [rCopy_go]
          cases st.H id with
          | arr ee sz f rows =>
            cases f with
            | true => rfl
            | false => simp only [cpAt_go, onP_go]; rfl
          | _ => rfl
      | _ => rfl
    | _ => rfl
  | _ =>
    cases v with
    | c c => cases c <;> rfl
    | _ => rfl

def rMin (x y : AV) : Option (Prop × AV) :=
  match x, y with
  | .c (.raw (.int k a)), .c (.raw (.int k' b)) => some (k = k', .c (.raw (.int k (if b < a then b else a))))
  | _, _ => none
@[simp] theorem rMin_go {k k' : IntKind} {a b : Int} : rMin (.c (.raw (.int k a))) (.c (.raw (.int k' b))) = some (k = k', .c (.raw (.int k (if b < a then b else a)))) := rfl
theorem go_min {dst : Option Nat} {K : St → Prop} {x y : Operand} {ts : List TypeId} : abi P dst .min [x, y] ts st K = onP (rMin (st.eval x) (st.eval y)) fun v => K (st.put dst v) := by
  simp only [abi]
  generalize st.eval x = u
  generalize st.eval y = v
  unfold rMin
  split
  · rfl
  · rename_i hn
    split
    · rename_i k a k' b; exact (hn _ _ _ _ rfl rfl).elim
    · rfl
attribute [simp ↓] go_append go_copy go_min

section
variable {ks : List Nat} {xs ys eqs : List AC} {k : IntKind} {a b : Int} {p q r : Bool} {s t : List UInt8} {es : List Nat}
@[simp] theorem eqc_nil : eqCells [] [] [] = some true := rfl
@[simp] theorem eqc_int : eqCells (3 :: ks) (.raw (.int k a) :: xs) (.raw (.int k b) :: ys) = (eqCells ks xs ys).map fun r => decide (a = b) && r := by simp [eqCells]
@[simp] theorem eqc_bool : eqCells (4 :: ks) (.raw (.bool p) :: xs) (.raw (.bool q) :: ys) = (eqCells ks xs ys).map fun r => (p == q) && r := by simp [eqCells]
@[simp] theorem eqc_str : eqCells (1 :: ks) (.str s :: xs) (.str t :: ys) = (eqCells ks xs ys).map fun r => decide (s = t) && r := by simp [eqCells]
@[simp] theorem aeq_eql : aeq .eql (some r) es = some (es ≠ [], .raw (.bool r)) := rfl
@[simp] theorem aeq_neq : aeq .neq (some r) es = some (es ≠ [], .raw (.bool (!r))) := rfl
end

@[simp] theorem hto_hto (H H' : Heap) : (st.hto H).hto H' = st.hto H' := rfl

/-- No object has a name that is to come. -/
def Fresh (H : Heap) (T : Nat) : Prop := ∀ k d, T ≤ k → H (k, d) = .unborn
theorem Fresh.set {H : Heap} {T T' : Nat} {i : Id} {o : OK} (h : Fresh H T) (hT : T ≤ T') (hi : i.1 < T') : Fresh (hset H i o) T' := fun k d hk => by
  unfold hset
  rw [if_neg (fun e => by rw [← e] at hi; simp at hi; omega)]
  exact h k d (by omega)
theorem Fresh.mono {H : Heap} {T T' : Nat} (h : Fresh H T) (hT : T ≤ T') : Fresh H T' := fun k d hk => h k d (by omega)
theorem Fresh.lt {H : Heap} {T : Nat} {i : Id} (h : Fresh H T) (hi : H i ≠ .unborn) : i.1 < T := by
  rcases Nat.lt_or_ge i.1 T with q | q
  · exact q
  · exact (hi (h i.1 i.2 q)).elim
theorem Fresh.ne {H : Heap} {T : Nat} {i : Id} (h : Fresh H T) (hi : H i ≠ .unborn) (d : Nat) : (T, d) ≠ i := fun e => by
  have := h.lt hi
  rw [← e] at this
  simp at this
theorem Fresh.nee {H : Heap} {T : Nat} {i : Id} (h : Fresh H T) (hi : H i ≠ .unborn) (k d : Nat) (hk : T ≤ k) : ((k, d) = i) = False := by
  have := h.lt hi
  simp only [eq_iff_iff, iff_false]
  intro e
  rw [← e] at this
  simp at this; omega
theorem Fresh.nee' {H : Heap} {T : Nat} {i : Id} (h : Fresh H T) (hi : H i ≠ .unborn) (k d : Nat) (hk : T ≤ k) : (i = (k, d)) = False := by
  have := h.nee hi k d hk
  simp only [eq_iff_iff, iff_false] at this ⊢
  exact fun e => this e.symm
theorem fresh_no : Fresh noHeap 0 := fun _ _ _ => rfl

end Go.AE

/- The disk's helpers: what they tell. -/
set_option linter.unusedVariables false
set_option linter.unusedSimpArgs false
set_option maxHeartbeats 2000000
namespace Go.AE
open Go Go.Proofs

theorem sector_ev {F : CT} (hF : CTok Tryz.prog F) (l : List UInt8) : PEv Tryz.prog 42 [.c (.str l)] (.c (.raw (.bool (decide (l.length = 32))))) := by
  refine tells_of mixed hF Tryz.func42 sl42 ok42 (by kernel_rfl) (by simp -implicitDefEqProofs) (by simp -implicitDefEqProofs) ?_
  simp -implicitDefEqProofs [s42, ty9, ty3, ty4, Tryz.results42]
  omega

theorem between_ev {F : CT} (hF : CTok Tryz.prog F) (n lo hi : Int) : PEv Tryz.prog 27 [.c (.raw (.int .i64 n)), .c (.raw (.int .i64 lo)), .c (.raw (.int .i64 hi))] (.c (.raw (.bool (decide (lo ≤ n) && decide (n ≤ hi))))) := by
  refine tells_of mixed hF Tryz.func27 sl27 ok27 (by kernel_rfl) (by simp -implicitDefEqProofs) (by simp -implicitDefEqProofs) ?_
  simp -implicitDefEqProofs [s27, ty9, ty3, ty4, Tryz.results27]
  omega

theorem copyStrings_ev {F : CT} (hF : CTok Tryz.prog F) (l : List (List UInt8)) (hl : l.length < 1000000) : PEv Tryz.prog 29 [.c (.sl .brw false (rowsE l))] (.c (.nw 9 1 (rowsE l))) := by
  refine tells_of mixed hF Tryz.func29 sl29 ok29 (by kernel_rfl) (by simp -implicitDefEqProofs) (by simp -implicitDefEqProofs) ?_
  simp -implicitDefEqProofs [s29, ty27, ty3, ty4, Tryz.results29]
  refine loop_n (fun n st => ∃ i : Nat, i ≤ l.length ∧ n = l.length - i ∧ st.s 0 = .c (.sl .brw false (rowsE l)) ∧ st.s 4 = .c (.raw (.int .i64 i)) ∧ Fresh st.H st.T ∧
    ((st.s 3 = .c (.raw (.slice none 0 0)) ∧ i = 0) ∨ ∃ id, st.s 3 = .c (.so id 0 i) ∧ st.H id = .arr 9 1 false (rowsE (l.take i)))) l.length ⟨0, by simp -implicitDefEqProofs [fresh_no.mono]⟩ ?_
  rintro n st ⟨i, hi, rfl, h0, h4, hf, hown⟩
  have hff := fun d => hf (st.T + 1) d (by omega)
  by_cases hlt : i < l.length
  · have hw : IntKind.wrap .i64 ((i : Int) + 1) = ((i + 1 : Nat) : Int) := by rw [wrap64_id] <;> omega
    have ht : rowsE (l.take (i + 1)) = rowsE (l.take i) ++ [Enc.row l[i]] := by rw [rowsE_snoc, List.take_add_one]; simp -implicitDefEqProofs [hlt]
    rcases hown with ⟨h3, rfl⟩ | ⟨id, h3, hid⟩
    · simp -implicitDefEqProofs [s29L0, h0, h4, h3, ty27, ty9, ty3, ty4, hlt, hff]
      refine ⟨_, ?_, 1, ?_, rfl, rfl, ?_, _, _, ⟨⟨rfl, rfl⟩, rfl⟩, ?_⟩
      · omega
      · omega
      · exact (hf.set (T' := st.T + 2) (by omega) (by simp -implicitDefEqProofs)).set (by omega) (by simp -implicitDefEqProofs)
      · simp -implicitDefEqProofs at ht; simp -implicitDefEqProofs [ht]
    · have hne := hf.nee (i := id) (by rw [hid]; simp -implicitDefEqProofs) (st.T + 1)
      have hne' := hf.nee' (i := id) (by rw [hid]; simp -implicitDefEqProofs) (st.T + 1)
      have hi2 : (rowsE (l.take i)).length = i := by simp -implicitDefEqProofs; omega
      simp -implicitDefEqProofs [s29L0, h0, h4, h3, ty27, ty9, ty3, ty4, hlt, hff, hid, hne, hne', hw, Nat.min_eq_left hi]
      refine ⟨by omega, _, ?_, i + 1, ?_, rfl, rfl, ?_, _, _, ⟨⟨rfl, rfl⟩, rfl⟩, ?_⟩
      · omega
      · omega
      · exact ((hf.set (T' := st.T + 2) (by omega) (by simp -implicitDefEqProofs)).set (T' := st.T + 2) (by omega) (by have := hf.lt (i := id) (by rw [hid]; simp -implicitDefEqProofs); omega)).set (by omega) (by simp -implicitDefEqProofs)
      · simp -implicitDefEqProofs [ht]
  · rcases hown with ⟨h3, rfl⟩ | ⟨id, h3, hid⟩
    · simp -implicitDefEqProofs [s29L0, h0, h4, h3, ty27, ty9, ty3, ty4, Tryz.results29, hlt, hff]
      simpa using hlt
    · have : i = l.length := by omega
      subst this
      simp -implicitDefEqProofs [s29L0, h0, h4, h3, ty27, ty9, ty3, ty4, Tryz.results29, hlt, hff, hid]
end Go.AE

/- The abstract machine: tables of what functions tell, by values. -/
set_option linter.unusedVariables false
set_option linter.unusedSimpArgs false
namespace Go.AE
open Go

/-- What holds behind a loop, said once. -/
theorem loop_cut {P : Program} {F : CT} {x y : SC} {id : Nat} {Q Q' : AEx → St → Prop} {st : St} (R : St → Prop) (hl : awpS P F x (ablock id (athen R Q')) st) (hy : ∀ st, R st → awpS P F y Q st) :
    awpS P F x (ablock id (athen (awpS P F y Q) Q')) st := by
  refine awpS_mono (fun e st h => ?_) hl
  cases e with
  | normal => exact hy st h
  | exit j =>
    simp only [ablock_e] at h ⊢
    split
    · rename_i hj
      rw [if_pos hj] at h
      exact hy st h
    · rename_i hj
      rw [if_neg hj] at h
      exact h
  | ret => exact h

/-- Values as arguments. -/
class Arg (α : Type) where
  enc : α → AV
  dec : AV → Option α
  dec_some : ∀ {x : AV} {a : α}, dec x = some a → x = enc a

section
variable {P : Program} {α β γ δ : Type} [Arg α] [Arg β] [Arg γ] [Arg δ]

def t1 (C : α → Prop) (R : α → AV) : List AV → Option (Prop × AV)
  | [x] => (Arg.dec x).map fun a => (C a, R a)
  | _ => none
def t2 (C : α → β → Prop) (R : α → β → AV) : List AV → Option (Prop × AV)
  | [x, y] => match Arg.dec x, Arg.dec y with
    | some a, some b => some (C a b, R a b)
    | _, _ => none
  | _ => none
def t3 (C : α → β → γ → Prop) (R : α → β → γ → AV) : List AV → Option (Prop × AV)
  | [x, y, z] => match Arg.dec x, Arg.dec y, Arg.dec z with
    | some a, some b, some c => some (C a b c, R a b c)
    | _, _, _ => none
  | _ => none

theorem tells1 {f : FuncId} {C : α → Prop} {R : α → AV} (h : ∀ a, C a → PEv P f [Arg.enc a] (R a)) : Tells P f (t1 C R) := by
  intro args D ret he hD
  unfold t1 at he
  split at he
  · rename_i x
    rw [Option.map_eq_some_iff] at he
    obtain ⟨a, h1, h2⟩ := he
    cases h2
    rw [Arg.dec_some h1]
    exact h a hD
  · cases he

theorem tells2 {f : FuncId} {C : α → β → Prop} {R : α → β → AV} (h : ∀ a b, C a b → PEv P f [Arg.enc a, Arg.enc b] (R a b)) : Tells P f (t2 C R) := by
  intro args D ret he hD
  unfold t2 at he
  split at he
  · split at he
    · rename_i a b h1 h2
      cases he
      rw [Arg.dec_some h1, Arg.dec_some h2]
      exact h a b hD
    · cases he
  · cases he

theorem tells3 {f : FuncId} {C : α → β → γ → Prop} {R : α → β → γ → AV} (h : ∀ a b c, C a b c → PEv P f [Arg.enc a, Arg.enc b, Arg.enc c] (R a b c)) : Tells P f (t3 C R) := by
  intro args D ret he hD
  unfold t3 at he
  split at he
  · split at he
    · rename_i a b c h1 h2 h3
      cases he
      rw [Arg.dec_some h1, Arg.dec_some h2, Arg.dec_some h3]
      exact h a b c hD
    · cases he
  · cases he
end

@[simp] theorem t1_go {α : Type} [Arg α] {C : α → Prop} {R : α → AV} {x : AV} : t1 C R [x] = (Arg.dec x).map fun a => (C a, R a) := rfl
@[simp] theorem t2_go {α β : Type} [Arg α] [Arg β] {C : α → β → Prop} {R : α → β → AV} {x y : AV} : t2 C R [x, y] = (match (Arg.dec x : Option α), (Arg.dec y : Option β) with
    | some a, some b => some (C a b, R a b)
    | _, _ => none) := rfl
@[simp] theorem t3_go {α β γ : Type} [Arg α] [Arg β] [Arg γ] {C : α → β → γ → Prop} {R : α → β → γ → AV} {x y z : AV} : t3 C R [x, y, z] = (match (Arg.dec x : Option α), (Arg.dec y : Option β), (Arg.dec z : Option γ) with
    | some a, some b, some c => some (C a b c, R a b c)
    | _, _, _ => none) := rfl

def t0 (R : AV) : List AV → Option (Prop × AV)
  | [] => some (True, R)
  | _ => none
@[simp] theorem t0_go {R : AV} : t0 R [] = some (True, R) := rfl
theorem tells0 {P : Program} {f : FuncId} {R : AV} (h : PEv P f [] R) : Tells P f (t0 R) := by
  intro args D ret he hD
  cases args with
  | nil => cases he; exact h
  | cons a r => cases he

def t4 {α β γ δ : Type} [Arg α] [Arg β] [Arg γ] [Arg δ] (C : α → β → γ → δ → Prop) (R : α → β → γ → δ → AV) : List AV → Option (Prop × AV)
  | [x, y, z, u] => match Arg.dec x, Arg.dec y, Arg.dec z, Arg.dec u with
    | some a, some b, some c, some d => some (C a b c d, R a b c d)
    | _, _, _, _ => none
  | _ => none
@[simp] theorem t4_go {α β γ δ : Type} [Arg α] [Arg β] [Arg γ] [Arg δ] {C : α → β → γ → δ → Prop} {R : α → β → γ → δ → AV} {x y z u : AV} : t4 C R [x, y, z, u] = (match (Arg.dec x : Option α), (Arg.dec y : Option β), (Arg.dec z : Option γ), (Arg.dec u : Option δ) with
    | some a, some b, some c, some d => some (C a b c d, R a b c d)
    | _, _, _, _ => none) := rfl
theorem tells4 {P : Program} {α β γ δ : Type} [Arg α] [Arg β] [Arg γ] [Arg δ] {f : FuncId} {C : α → β → γ → δ → Prop} {R : α → β → γ → δ → AV} (h : ∀ a b c d, C a b c d → PEv P f [Arg.enc a, Arg.enc b, Arg.enc c, Arg.enc d] (R a b c d)) : Tells P f (t4 C R) := by
  intro args D ret he hD
  unfold t4 at he
  split at he
  · split at he
    · rename_i a b c d h1 h2 h3 h4
      cases he
      rw [Arg.dec_some h1, Arg.dec_some h2, Arg.dec_some h3, Arg.dec_some h4]
      exact h a b c d hD
    · cases he
  · cases he

instance argI : Arg Int where
  enc n := .c (.raw (.int .i64 n))
  dec | .c (.raw (.int .i64 n)) => some n | _ => none
  dec_some {x a} h := by split at h <;> simp_all
instance argS : Arg (List UInt8) where
  enc s := .c (.str s)
  dec | .c (.str s) => some s | _ => none
  dec_some {x a} h := by split at h <;> simp_all
instance argL {α : Type} [Enc α] : Arg (List α) where
  enc l := .c (.sl .brw false (rowsE l))
  dec | .c (.sl .brw false xs) => decE xs | _ => none
  dec_some {x a} h := by
    split at h
    · rw [decE_some h]
    · cases h

@[simp] theorem enc_I (n : Int) : Arg.enc n = .c (.raw (.int .i64 n)) := rfl
@[simp] theorem enc_S (s : List UInt8) : Arg.enc s = .c (.str s) := rfl
@[simp] theorem enc_L {α : Type} [Enc α] (l : List α) : @Arg.enc (List α) argL l = .c (.sl .brw false (rowsE l)) := rfl
@[simp] theorem dec_I (n : Int) : Arg.dec (.c (.raw (.int .i64 n))) = some n := rfl
@[simp] theorem dec_S (s : List UInt8) : (Arg.dec (.c (.str s)) : Option (List UInt8)) = some s := rfl
@[simp] theorem dec_L {α : Type} [Enc α] (l : List α) : @Arg.dec (List α) argL (.c (.sl .brw false (rowsE l))) = some l := decE_rows l
@[simp] theorem dec_L0 {α : Type} [Enc α] : @Arg.dec (List α) argL (.c (.sl .brw false [])) = some [] := rfl

end Go.AE

/- The disk's values. -/
set_option linter.unusedVariables false
namespace Go.AE
open Go

structure Sect where
  at_ : Int
  text : List UInt8
  deriving DecidableEq

instance encSect : Enc Sect where
  w := 2
  row s := [.raw (.int .i64 s.at_), .str s.text]
  dec | [.raw (.int .i64 n), .str t] => some ⟨n, t⟩ | _ => none
  dec_row _ := rfl
  row_dec {r a} h := by split at h <;> simp_all; subst h; exact ⟨rfl, rfl⟩
  len _ := rfl
  old a c hc := by simp -implicitDefEqProofs at hc; rcases hc with rfl | rfl <;> constructor
  ret a c hc := by simp -implicitDefEqProofs at hc; rcases hc with rfl | rfl <;> constructor

@[simp] theorem row_Sect (s : Sect) : Enc.row s = [AC.raw (.int .i64 s.at_), AC.str s.text] := rfl
@[simp] theorem w_Sect : Enc.w Sect = 2 := rfl

structure DiskV where
  safe : List (List UInt8)
  wait : List Sect
  deriving DecidableEq

theorem Sect.ext_iff' {a b : Sect} : a = b ↔ a.at_ = b.at_ ∧ a.text = b.text := by
  cases a; cases b; simp -implicitDefEqProofs

end Go.AE

/- The disk's helpers: more of them. -/
set_option linter.unusedVariables false
set_option linter.unusedSimpArgs false
set_option maxHeartbeats 2000000
namespace Go.AE
open Go Go.Proofs

theorem copySectors_ev {F : CT} (hF : CTok Tryz.prog F) (l : List Sect) (hl : l.length < 1000000) : PEv Tryz.prog 30 [.c (.sl .brw false (rowsE l))] (.c (.nw 75 2 (rowsE l))) := by
  refine tells_of mixed hF Tryz.func30 sl30 ok30 (by kernel_rfl) (by simp -implicitDefEqProofs) (by simp -implicitDefEqProofs) ?_
  simp -implicitDefEqProofs [s30, ty28, ty75, ty3, ty4, Tryz.results30]
  refine loop_n (fun n st => ∃ i : Nat, i ≤ l.length ∧ n = l.length - i ∧ st.s 0 = .c (.sl .brw false (rowsE l)) ∧ st.s 4 = .c (.raw (.int .i64 i)) ∧ Fresh st.H st.T ∧
    ((st.s 3 = .c (.raw (.slice none 0 0)) ∧ i = 0) ∨ ∃ id, st.s 3 = .c (.so id 0 i) ∧ st.H id = .arr 75 2 false (rowsE (l.take i)))) l.length ⟨0, by simp -implicitDefEqProofs [fresh_no.mono]⟩ ?_
  rintro n st ⟨i, hi, rfl, h0, h4, hf, hown⟩
  have hff := fun d => hf (st.T + 1) d (by omega)
  by_cases hlt : i < l.length
  · have hw : IntKind.wrap .i64 ((i : Int) + 1) = ((i + 1 : Nat) : Int) := by rw [wrap64_id] <;> omega
    have ht : rowsE (l.take (i + 1)) = rowsE (l.take i) ++ [Enc.row l[i]] := by rw [rowsE_snoc, List.take_add_one]; simp -implicitDefEqProofs [hlt]
    rcases hown with ⟨h3, rfl⟩ | ⟨id, h3, hid⟩
    · simp -implicitDefEqProofs [s30L0, h0, h4, h3, ty28, ty75, ty3, ty4, hlt, hff]
      refine ⟨_, ?_, 1, ?_, rfl, rfl, ?_, _, _, ⟨⟨rfl, rfl⟩, rfl⟩, ?_⟩
      · omega
      · omega
      · exact (hf.set (T' := st.T + 2) (by omega) (by simp -implicitDefEqProofs)).set (by omega) (by simp -implicitDefEqProofs)
      · simp -implicitDefEqProofs at ht; simp -implicitDefEqProofs [ht]
    · have hne := hf.nee (i := id) (by rw [hid]; simp -implicitDefEqProofs) (st.T + 1)
      have hne' := hf.nee' (i := id) (by rw [hid]; simp -implicitDefEqProofs) (st.T + 1)
      simp -implicitDefEqProofs [s30L0, h0, h4, h3, ty28, ty75, ty3, ty4, hlt, hff, hid, hne, hne', hw, Nat.min_eq_left hi]
      refine ⟨by omega, _, ?_, i + 1, ?_, rfl, rfl, ?_, _, _, ⟨⟨rfl, rfl⟩, rfl⟩, ?_⟩
      · omega
      · omega
      · exact ((hf.set (T' := st.T + 2) (by omega) (by simp -implicitDefEqProofs)).set (T' := st.T + 2) (by omega) (by have := hf.lt (i := id) (by rw [hid]; simp -implicitDefEqProofs); omega)).set (by omega) (by simp -implicitDefEqProofs)
      · simp -implicitDefEqProofs [ht]
  · rcases hown with ⟨h3, rfl⟩ | ⟨id, h3, hid⟩
    · simp -implicitDefEqProofs [s30L0, h0, h4, h3, ty28, ty75, ty3, ty4, Tryz.results30, hlt, hff]
      simpa using hlt
    · have : i = l.length := by omega
      subst this
      simp -implicitDefEqProofs [s30L0, h0, h4, h3, ty28, ty75, ty3, ty4, Tryz.results30, hlt, hff, hid]

end Go.AE

/- The disk's helpers: disks. -/
set_option linter.unusedVariables false
set_option linter.unusedSimpArgs false
set_option maxHeartbeats 2000000
namespace Go.AE
open Go Go.Proofs

def F1_h42 : List AV → Option (Prop × AV) := t1 (fun _ => True) fun l : List UInt8 => .c (.raw (.bool (decide (l.length = 32))))
@[simp] theorem F1_ap42 {l : List AV} : F1_h42 l = (t1 (fun _ => True) fun l : List UInt8 => .c (.raw (.bool (decide (l.length = 32))))) l := rfl
def F1_h29 : List AV → Option (Prop × AV) := t1 (fun l => l.length < 1000000) fun l : List (List UInt8) => .c (.nw 9 1 (rowsE l))
@[simp] theorem F1_ap29 {l : List AV} : F1_h29 l = (t1 (fun l => l.length < 1000000) fun l : List (List UInt8) => .c (.nw 9 1 (rowsE l))) l := rfl
def F1_h30 : List AV → Option (Prop × AV) := t1 (fun l => l.length < 1000000) fun l : List Sect => .c (.nw 75 2 (rowsE l))
@[simp] theorem F1_ap30 {l : List AV} : F1_h30 l = (t1 (fun l => l.length < 1000000) fun l : List Sect => .c (.nw 75 2 (rowsE l))) l := rfl
def F1_h27 : List AV → Option (Prop × AV) := t3 (fun _ _ _ => True) fun n lo hi : Int => .c (.raw (.bool (decide (lo ≤ n) && decide (n ≤ hi))))
@[simp] theorem F1_ap27 {l : List AV} : F1_h27 l = (t3 (fun _ _ _ => True) fun n lo hi : Int => .c (.raw (.bool (decide (lo ≤ n) && decide (n ≤ hi))))) l := rfl
def F1 : CT := (42, .pu F1_h42) :: (29, .pu F1_h29) :: (30, .pu F1_h30) :: (27, .pu F1_h27) :: []
theorem F1_ok : CTok Tryz.prog F1 := ⟨tells1 fun l _ => sector_ev (F := []) trivial l,
  tells1 fun l h => copyStrings_ev (F := []) trivial l h,
  tells1 fun l h => copySectors_ev (F := []) trivial l h,
  tells3 fun n lo hi _ => between_ev (F := []) trivial n lo hi, trivial⟩
@[simp] theorem F1_get42 : ctGet F1 42 = some (.pu F1_h42) := rfl
@[simp] theorem F1_get29 : ctGet F1 29 = some (.pu F1_h29) := rfl
@[simp] theorem F1_get30 : ctGet F1 30 = some (.pu F1_h30) := rfl
@[simp] theorem F1_get27 : ctGet F1 27 = some (.pu F1_h27) := rfl
@[simp] theorem F1_skip {n : Nat} (h : (n == 42 || n == 29 || n == 30 || n == 27) = false) : ctGet F1 n = ctGet ([] : CT) n := by
  simp only [Bool.or_eq_false_iff, beq_eq_false_iff_ne, ne_eq] at h
  simp [F1, ctGet, h]

instance argDisk : Arg DiskV where
  enc d := .g [.sl .brw false (rowsE d.safe), .sl .brw false (rowsE d.wait)]
  dec | .g [.sl .brw false a, .sl .brw false b] => (match decE a, decE b with | some a, some b => some ⟨a, b⟩ | _, _ => none) | _ => none
  dec_some {x d} h := by
    split at h
    · split at h
      · rename_i h1 h2
        cases h
        rw [decE_some h1, decE_some h2]
      · cases h
    · cases h

@[simp] theorem enc_Disk (d : DiskV) : Arg.enc d = .g [.sl .brw false (rowsE d.safe), .sl .brw false (rowsE d.wait)] := rfl
@[simp] theorem dec_Disk (a : List (List UInt8)) (b : List Sect) : Arg.dec (.g [.sl .brw false (rowsE a), .sl .brw false (rowsE b)]) = some (DiskV.mk a b) := by
  show (match decE (rowsE a), decE (rowsE b) with | some a, some b => some (DiskV.mk a b) | _, _ => none) = _
  simp -implicitDefEqProofs

def diskNw (d : DiskV) : List AC := [.nw 9 1 (rowsE d.safe), .nw 75 2 (rowsE d.wait)]

theorem copyDisk_ev (d : DiskV) (h1 : d.safe.length < 1000000) (h2 : d.wait.length < 1000000) : PEv Tryz.prog 14 [Arg.enc d] (.g (diskNw d)) := by
  refine tells_of mixed F1_ok Tryz.func14 sl14 ok14 (by kernel_rfl) (by simp -implicitDefEqProofs [diskNw]) (by simp -implicitDefEqProofs) ?_
  simp -implicitDefEqProofs [s14, ty30, ty27, ty28, ty3, ty4, ty75, h1, h2, Tryz.results14, diskNw]
end Go.AE

/- Ops, elements, entries as values. -/
set_option linter.unusedVariables false
set_option linter.unusedSimpArgs false
namespace Go.AE
open Go

structure ElemV where
  site : Int
  seq : Int
  i : Int
  deriving DecidableEq

instance encElem : Enc ElemV where
  w := 3
  row e := [.raw (.int .i64 e.site), .raw (.int .i64 e.seq), .raw (.int .i64 e.i)]
  dec | [.raw (.int .i64 a), .raw (.int .i64 b), .raw (.int .i64 c)] => some ⟨a, b, c⟩ | _ => none
  dec_row _ := rfl
  row_dec {r a} h := by split at h <;> simp_all; subst h; exact ⟨rfl, rfl, rfl⟩
  len _ := rfl
  old a c hc := by simp -implicitDefEqProofs (maxSteps := 400000) (maxDischargeDepth := 6) at hc; rcases hc with rfl | rfl | rfl <;> constructor
  ret a c hc := by simp -implicitDefEqProofs (maxSteps := 400000) (maxDischargeDepth := 6) at hc; rcases hc with rfl | rfl | rfl <;> constructor

@[simp] theorem row_Elem (e : ElemV) : Enc.row e = [AC.raw (.int .i64 e.site), AC.raw (.int .i64 e.seq), AC.raw (.int .i64 e.i)] := rfl
@[simp] theorem w_Elem : Enc.w ElemV = 3 := rfl

structure OpV where
  site : Int
  seq : Int
  kind : Int
  after : ElemV
  text : List UInt8
  gone : List ElemV
  of_ : Int
  num : Int
  gen : Int
  deriving DecidableEq

/-- An op's cells; the row of those that go is known as t. -/
def opRow (t : Tag) (o : OpV) : List AC :=
  [.raw (.int .i64 o.site), .raw (.int .i64 o.seq), .raw (.int .i64 o.kind), .raw (.int .i64 o.after.site), .raw (.int .i64 o.after.seq), .raw (.int .i64 o.after.i), .str o.text, .sl t false (rowsE o.gone), .raw (.int .i64 o.of_), .raw (.int .i64 o.num), .raw (.int .i64 o.gen)]

def opDec (t : Tag) : List AC → Option OpV
  | [.raw (.int .i64 a), .raw (.int .i64 b), .raw (.int .i64 c), .raw (.int .i64 d), .raw (.int .i64 e), .raw (.int .i64 f), .str s, .sl t' false g, .raw (.int .i64 h), .raw (.int .i64 i), .raw (.int .i64 j)] =>
    if t' = t then (decE g).map fun g => ⟨a, b, c, ⟨d, e, f⟩, s, g, h, i, j⟩ else none
  | _ => none

theorem opDec_row (t : Tag) (o : OpV) : opDec t (opRow t o) = some o := by
  unfold opDec opRow
  simp -implicitDefEqProofs (maxSteps := 400000) (maxDischargeDepth := 6)
theorem opRow_dec {t : Tag} {r : List AC} {o : OpV} (h : opDec t r = some o) : r = opRow t o := by
  unfold opDec at h
  split at h
  · split at h
    · rename_i ht
      subst ht
      rw [Option.map_eq_some_iff] at h
      obtain ⟨g, hg, rfl⟩ := h
      rw [decE_some hg]
      rfl
    · cases h
  · cases h
theorem opRow_len (t : Tag) (o : OpV) : (opRow t o).length = 11 := rfl

instance encOp : Enc OpV where
  w := 11
  row := opRow .old
  dec := opDec .old
  dec_row := opDec_row .old
  row_dec := opRow_dec
  len := opRow_len .old
  old a c hc := by simp -implicitDefEqProofs (maxSteps := 400000) (maxDischargeDepth := 6) [opRow] at hc; rcases hc with rfl | rfl | rfl | rfl | rfl | rfl | rfl | rfl | rfl | rfl | rfl <;> simp -implicitDefEqProofs (maxSteps := 400000) (maxDischargeDepth := 6) [oldOK_raw, oldOK_str, oldOK_sl]
  ret a c hc := by simp -implicitDefEqProofs (maxSteps := 400000) (maxDischargeDepth := 6) [opRow] at hc; rcases hc with rfl | rfl | rfl | rfl | rfl | rfl | rfl | rfl | rfl | rfl | rfl <;> simp -implicitDefEqProofs (maxSteps := 400000) (maxDischargeDepth := 6) [retOK_raw, retOK_str, retOK_sl]

@[simp] theorem row_Op (o : OpV) : Enc.row o = opRow .old o := rfl
@[simp] theorem w_Op : Enc.w OpV = 11 := rfl

structure EntryV where
  join : Bool
  nonce : Int
  op : OpV
  deriving DecidableEq

def entRow (t : Tag) (e : EntryV) : List AC := .raw (.bool e.join) :: .raw (.int .i64 e.nonce) :: opRow t e.op
def entDec (t : Tag) : List AC → Option EntryV
  | .raw (.bool j) :: .raw (.int .i64 n) :: r => (opDec t r).map fun o => ⟨j, n, o⟩
  | _ => none
theorem entDec_row (t : Tag) (e : EntryV) : entDec t (entRow t e) = some e := by simp -implicitDefEqProofs (maxSteps := 400000) (maxDischargeDepth := 6) [entDec, entRow, opDec_row]
theorem entRow_dec {t : Tag} {r : List AC} {e : EntryV} (h : entDec t r = some e) : r = entRow t e := by
  unfold entDec at h
  split at h
  · rw [Option.map_eq_some_iff] at h
    obtain ⟨o, ho, rfl⟩ := h
    rw [opRow_dec ho]
    rfl
  · cases h

instance encEntry : Enc EntryV where
  w := 13
  row := entRow .old
  dec := entDec .old
  dec_row := entDec_row .old
  row_dec := entRow_dec
  len _ := rfl
  old a c hc := by simp -implicitDefEqProofs (maxSteps := 400000) (maxDischargeDepth := 6) [entRow, opRow] at hc; rcases hc with rfl | rfl | rfl | rfl | rfl | rfl | rfl | rfl | rfl | rfl | rfl | rfl | rfl <;> simp -implicitDefEqProofs (maxSteps := 400000) (maxDischargeDepth := 6) [oldOK_raw, oldOK_str, oldOK_sl]
  ret a c hc := by simp -implicitDefEqProofs (maxSteps := 400000) (maxDischargeDepth := 6) [entRow, opRow] at hc; rcases hc with rfl | rfl | rfl | rfl | rfl | rfl | rfl | rfl | rfl | rfl | rfl | rfl | rfl <;> simp -implicitDefEqProofs (maxSteps := 400000) (maxDischargeDepth := 6) [retOK_raw, retOK_str, retOK_sl]

@[simp] theorem row_Entry (e : EntryV) : Enc.row e = entRow .old e := rfl
@[simp] theorem w_Entry : Enc.w EntryV = 13 := rfl

/-! ### As arguments -/

instance argElem : Arg ElemV where
  enc e := .g (Enc.row e)
  dec | .g r => Enc.dec r | _ => none
  dec_some {x a} h := by
    split at h
    · rw [Enc.row_dec h]
    · cases h
instance argOp : Arg OpV where
  enc o := .g (opRow .brw o)
  dec | .g r => opDec .brw r | _ => none
  dec_some {x a} h := by
    split at h
    · rw [opRow_dec h]
    · cases h
instance argEntry : Arg EntryV where
  enc e := .g (entRow .brw e)
  dec | .g r => entDec .brw r | _ => none
  dec_some {x a} h := by
    split at h
    · rw [entRow_dec h]
    · cases h
instance argB : Arg Bool where
  enc b := .c (.raw (.bool b))
  dec | .c (.raw (.bool b)) => some b | _ => none
  dec_some {x a} h := by split at h <;> simp_all
@[simp] theorem enc_B (b : Bool) : Arg.enc b = .c (.raw (.bool b)) := rfl
@[simp] theorem dec_B (b : Bool) : (Arg.dec (.c (.raw (.bool b))) : Option Bool) = some b := rfl
@[simp] theorem enc_Elem (e : ElemV) : Arg.enc e = .g [AC.raw (.int .i64 e.site), AC.raw (.int .i64 e.seq), AC.raw (.int .i64 e.i)] := rfl
@[simp] theorem dec_Elem (a b c : Int) : (Arg.dec (.g [AC.raw (.int .i64 a), AC.raw (.int .i64 b), AC.raw (.int .i64 c)]) : Option ElemV) = some ⟨a, b, c⟩ := rfl
@[simp] theorem enc_Op (o : OpV) : Arg.enc o = .g (opRow .brw o) := rfl
@[simp] theorem dec_Op (a b c d e f : Int) (s : List UInt8) (g : List ElemV) (h i j : Int) :
    (Arg.dec (.g [.raw (.int .i64 a), .raw (.int .i64 b), .raw (.int .i64 c), .raw (.int .i64 d), .raw (.int .i64 e), .raw (.int .i64 f), .str s, .sl .brw false (rowsE g), .raw (.int .i64 h), .raw (.int .i64 i), .raw (.int .i64 j)]) : Option OpV) =
      some ⟨a, b, c, ⟨d, e, f⟩, s, g, h, i, j⟩ := opDec_row .brw ⟨a, b, c, ⟨d, e, f⟩, s, g, h, i, j⟩
@[simp] theorem dec_Op0 (a b c d e f : Int) (s : List UInt8) (h i j : Int) :
    (Arg.dec (.g [.raw (.int .i64 a), .raw (.int .i64 b), .raw (.int .i64 c), .raw (.int .i64 d), .raw (.int .i64 e), .raw (.int .i64 f), .str s, .sl .brw false [], .raw (.int .i64 h), .raw (.int .i64 i), .raw (.int .i64 j)]) : Option OpV) =
      some ⟨a, b, c, ⟨d, e, f⟩, s, [], h, i, j⟩ := opDec_row .brw ⟨a, b, c, ⟨d, e, f⟩, s, [], h, i, j⟩
@[simp] theorem dec_Opo (o : OpV) : (Arg.dec (.g (opRow .brw o)) : Option OpV) = some o := opDec_row .brw o
@[simp high] theorem dec_Opp (o : OpV) : (Arg.dec (.g [.raw (.int .i64 o.site), .raw (.int .i64 o.seq), .raw (.int .i64 o.kind), .raw (.int .i64 o.after.site), .raw (.int .i64 o.after.seq), .raw (.int .i64 o.after.i), .str o.text, .sl .brw false (rowsE o.gone), .raw (.int .i64 o.of_), .raw (.int .i64 o.num), .raw (.int .i64 o.gen)]) : Option OpV) = some o := opDec_row .brw o
@[simp] theorem enc_Entry (e : EntryV) : Arg.enc e = .g (entRow .brw e) := rfl
@[simp] theorem dec_Entry (j : Bool) (n a b c d e f : Int) (s : List UInt8) (g : List ElemV) (h i k : Int) :
    (Arg.dec (.g [.raw (.bool j), .raw (.int .i64 n), .raw (.int .i64 a), .raw (.int .i64 b), .raw (.int .i64 c), .raw (.int .i64 d), .raw (.int .i64 e), .raw (.int .i64 f), .str s, .sl .brw false (rowsE g), .raw (.int .i64 h), .raw (.int .i64 i), .raw (.int .i64 k)]) : Option EntryV) =
      some ⟨j, n, a, b, c, ⟨d, e, f⟩, s, g, h, i, k⟩ := entDec_row .brw ⟨j, n, a, b, c, ⟨d, e, f⟩, s, g, h, i, k⟩
@[simp] theorem dec_Entry0 (j : Bool) (n a b c d e f : Int) (s : List UInt8) (h i k : Int) :
    (Arg.dec (.g [.raw (.bool j), .raw (.int .i64 n), .raw (.int .i64 a), .raw (.int .i64 b), .raw (.int .i64 c), .raw (.int .i64 d), .raw (.int .i64 e), .raw (.int .i64 f), .str s, .sl .brw false [], .raw (.int .i64 h), .raw (.int .i64 i), .raw (.int .i64 k)]) : Option EntryV) =
      some ⟨j, n, a, b, c, ⟨d, e, f⟩, s, [], h, i, k⟩ := entDec_row .brw ⟨j, n, a, b, c, ⟨d, e, f⟩, s, [], h, i, k⟩
@[simp] theorem dec_Ento (e : EntryV) : (Arg.dec (.g (entRow .brw e)) : Option EntryV) = some e := entDec_row .brw e
@[simp high] theorem dec_Entp (e : EntryV) : (Arg.dec (.g [.raw (.bool e.join), .raw (.int .i64 e.nonce), .raw (.int .i64 e.op.site), .raw (.int .i64 e.op.seq), .raw (.int .i64 e.op.kind), .raw (.int .i64 e.op.after.site), .raw (.int .i64 e.op.after.seq), .raw (.int .i64 e.op.after.i), .str e.op.text, .sl .brw false (rowsE e.op.gone), .raw (.int .i64 e.op.of_), .raw (.int .i64 e.op.num), .raw (.int .i64 e.op.gen)]) : Option EntryV) = some e := entDec_row .brw e

end Go.AE

/- The abstract machine: calls that look at the caller's objects and turn them: the callee's code is walked in the caller's heap. -/
set_option linter.unusedVariables false
set_option linter.unusedSimpArgs false
namespace Go.AE
open Go

variable {P : Program}

/-- The callee begins: its arguments, the caller's objects. -/
def enterS (st : St) (args : List AV) : St := { s := fun t => args.getD t (.c (.raw undef)), H := st.H, T := st.T + 1 }

def finR (P : Program) (fn : Func) (R : AV → Heap → Nat → Prop) (e : AEx) (st : St) : Prop :=
  (match e with | .normal | .ret => True | _ => False) ∧ ∃ res, resA P st fn.results.toList = some res ∧ R res st.H st.T

theorem RelH.ctx {C : Ctx P} {H : Heap} {ρ : Lies} {w : World} (h : RelH C H ρ w) (X : World → (Tag → Nat → Prop) → Heap → Lies → Prop)
    (keepX : ∀ {w w' : World} {F F' : Tag → Nat → Prop} {H H' : Heap} {ρ ρ' : Lies}, Keeps w w' F F' H H' ρ ρ' → X w F H ρ → X w' F' H' ρ') : RelH (P := P) ⟨C.w0, C.hI, C.G, X, keepX⟩ H ρ w :=
  ⟨h.below, h.row, h.inj, h.fin⟩
theorem RelH.unctx {C : Ctx P} {H : Heap} {ρ : Lies} {w : World} {X : World → (Tag → Nat → Prop) → Heap → Lies → Prop}
    {keepX : ∀ {w w' : World} {F F' : Tag → Nat → Prop} {H H' : Heap} {ρ ρ' : Lies}, Keeps w w' F F' H H' ρ ρ' → X w F H ρ → X w' F' H' ρ'} (h : RelH (P := P) ⟨C.w0, C.hI, C.G, X, keepX⟩ H ρ w) : RelH C H ρ w :=
  ⟨h.below, h.row, h.inj, h.fin⟩

theorem callK_of {calm : Array Oper → Bool} (hcalm : CalmOK P calm) {f : FuncId} {fn : Func} {c : Code} {st : St} {args : List AV} {R : AV → Heap → Nat → Prop} (hf : P.funcs[f]? = some fn) (hb : fn.body = some c)
    (hok : fnOK calm fn args.length = true) (h : awp P c (finR P fn R) (enterS st args)) : CallK P st f args R := by
  simp only [fnOK, hb, Bool.and_eq_true, decide_eq_true_eq, bne_iff_ne, ne_eq] at hok
  obtain ⟨⟨hname, hcode⟩, hle⟩ := hok
  refine ⟨by simp [okCall, hf, hb, hname], fun C ρ a w vs hr hsz hargs => ?_⟩
  let X : World → (Tag → Nat → Prop) → Heap → Lies → Prop := fun w F H ρ => C.X w F H ρ ∧ ∀ t, RelV w F H ρ (st.s t) (a.tmps.getD t undef)
  let C' : Ctx P := ⟨C.w0, C.hI, C.G, X, fun k q => ⟨C.keepX k q.1, fun t => (q.2 t).keep k⟩⟩
  have h0 : Rel C' ρ (enterS st args) { tmps := vs ++ Array.replicate (fn.ntmps - vs.size) undef, defers := [] } w := by
    refine ⟨hr.heap.ctx X _, fun t => ?_, rfl, ⟨hr.ghost, hr.slot⟩⟩
    simp only [enterS]
    by_cases ht : t < args.length
    · have h1 : args[t]? = some (args.getD t (.c (.raw undef))) := by simp [ht]
      have h2 : (vs ++ Array.replicate (fn.ntmps - vs.size) undef).getD t undef = vs.getD t undef := by
        simp [Array.getD_eq_getD_getElem?, Array.getElem?_append, show t < vs.size by omega]
      rw [h2]; exact hargs t _ h1
    · have h1 : args.getD t (.c (.raw undef)) = .c (.raw undef) := by simp [List.getD, List.getElem?_eq_none (Nat.le_of_not_lt ht)]
      have h2 : (vs ++ Array.replicate (fn.ntmps - vs.size) undef).getD t undef = undef := by
        simp only [Array.getD_eq_getD_getElem?, Array.getElem?_append, show ¬ t < vs.size by omega, if_false, Array.getElem?_replicate]
        split <;> rfl
      rw [h1, h2]; exact .c _ _ (.raw _)
  refine calls_of_wp hf hb (Code.wp_mono (fun e a' w' q => ?_) (awp_sound calm hcalm c fn.ntmps _ ρ (enterS st args) _ w hcode (by simp; omega) h0 h))
  have fin : SemK C' fn.ntmps (fun st' => ∃ res, resA P st' fn.results.toList = some res ∧ R res st'.H st'.T) a' w' →
      a'.defers = [] ∧ ∃ v, (results fn a'.tmps).run P w' = .ok v w' ∧ (∃ v', Ending.returned v = .returned v' ∧ ∃ ρ' ret H' T', Rel C ρ' (st.back H' T') a w' ∧ RelV w' (Fr C H' ρ') H' ρ' ret v' ∧ R ret H' T') :=
    fun ⟨_, ρ', st', hr', res, g1, g2⟩ => by
      obtain ⟨v, h1, h2⟩ := resA_sound hr' g1
      exact ⟨hr'.nodef, v, h1, v, rfl, ρ', res, st'.H, st'.T, ⟨hr'.heap.unctx, hr'.ghost.2, hr.nodef, hr'.ghost.1⟩, h2, g2⟩
  cases e with
  | normal => exact fin (SemK.mono q fun st hs => hs.2)
  | ret => exact fin (SemK.mono q fun st hs => hs.2)
  | exit id =>
    obtain ⟨_, _, _, _, hs⟩ := q
    exact hs.1.elim
  | _ => exact q.elim

end Go.AE

/- The abstract machine: a walk through a callee in the caller's heap. -/
set_option linter.unusedVariables false
set_option linter.unusedSimpArgs false
namespace Go.AE
open Go

variable {P : Program}

theorem CallK.mono {st : St} {f : FuncId} {args : List AV} {R R' : AV → Heap → Nat → Prop} (hr : ∀ ret H T, R ret H T → R' ret H T) (h : CallK P st f args R) : CallK P st f args R' :=
  ⟨h.1, fun C ρ a w vs q1 q2 q3 => (h.2 C ρ a w vs q1 q2 q3).mono fun e w' ⟨v, e1, ρ', ret, H', T', g1, g2, g3⟩ => ⟨v, e1, ρ', ret, H', T', g1, g2, hr _ _ _ g3⟩⟩

/-- THE RULE FOR A CALL that looks at the caller's objects. -/
theorem callK_slim (hm : P.follows .mixedOrders = true) {F : CT} (hF : CTok P F) {f : FuncId} {fn : Func} {s : SC} {st : St} {args : List AV} {R : AV → Heap → Nat → Prop} (hf : P.funcs[f]? = some fn) (hs : slimK fn.body s = some (unK s, true))
    (hok : fnOK calmB fn 0 = true) (hle : Nat.ble args.length fn.ntmps = true) (h : awpS P F s (finR P fn R) (enterS st args)) : CallK P st f args R := by
  cases hb : fn.body with
  | none => rw [hb] at hs; cases hs
  | some c =>
    rw [hb] at hs
    simp only [slimK, Option.map_some, Option.some.injEq, Prod.mk.injEq] at hs
    refine callK_of (calm_ok hm) hf hb ?_ (awpS_sound hF hs.1 hs.2 h)
    simp only [fnOK, hb, Bool.and_eq_true] at hok ⊢
    exact ⟨hok.1, by simpa using Nat.le_of_ble_eq_true hle⟩

theorem acall_k {st : St} {dst : Option Nat} {f : FuncId} {args : List AV} {R : AV → Heap → Nat → Prop} {K : St → Prop} (h : CallK P st f args R) (hk : ∀ ret H T, R ret H T → K ((st.back H T).put dst ret)) : ACall P false st dst f args K :=
  .inr ⟨rfl, h.mono hk⟩

/-- The callee is walked in its place. -/
theorem acall_in (hm : P.follows .mixedOrders = true) {F : CT} (hF : CTok P F) {f : FuncId} {fn : Func} {s : SC} {st : St} {args : List AV} {dst : Option Nat} {K : St → Prop} (hf : P.funcs[f]? = some fn) (hs : slimK fn.body s = some (unK s, true))
    (hok : fnOK calmB fn 0 = true) (hle : Nat.ble args.length fn.ntmps = true) (h : awpS P F s (finR P fn fun ret H T => K ((st.back H T).put dst ret)) (enterS st args)) : ACall P false st dst f args K :=
  .inr ⟨rfl, callK_slim hm hF hf hs hok hle h⟩

section
variable {st : St} {H H' : Heap} {T T' : Nat} {args : List AV} {k : Nat}
@[simp] theorem back_s : (st.back H T).s = st.s := rfl
@[simp] theorem back_H : (st.back H T).H = H := rfl
@[simp] theorem back_T : (st.back H T).T = T := rfl
@[simp] theorem back_back : (st.back H T).back H' T' = st.back H' T' := rfl
@[simp] theorem enterS_s : (enterS st args).s k = args.getD k (.c (.raw undef)) := rfl
@[simp] theorem enterS_H : (enterS st args).H = st.H := rfl
@[simp] theorem enterS_T : (enterS st args).T = st.T + 1 := rfl
@[simp] theorem finR_ret {fn : Func} {R : AV → Heap → Nat → Prop} : finR P fn R .ret st = ∃ res, resA P st fn.results.toList = some res ∧ R res st.H st.T := by simp [finR]
@[simp] theorem finR_normal {fn : Func} {R : AV → Heap → Nat → Prop} : finR P fn R .normal st = ∃ res, resA P st fn.results.toList = some res ∧ R res st.H st.T := by simp [finR]
end

/-- All objects but some are as they were. -/
def SameBut (S : List Id) (H H' : Heap) : Prop := ∀ i, H i ≠ .unborn → i ∉ S → H' i = H i

theorem SameBut.refl (S : List Id) (H : Heap) : SameBut S H H := fun _ _ _ => rfl
theorem SameBut.set {S : List Id} {H H' : Heap} {i : Id} {o : OK} (h : SameBut S H H') (hi : H i = .unborn ∨ i ∈ S) : SameBut S H (hset H' i o) := fun j hj hn => by
  unfold hset
  rw [if_neg ?_]
  · exact h j hj hn
  · rintro rfl
    rcases hi with q | q
    · exact hj q
    · exact hn q
theorem SameBut.get {S : List Id} {H H' : Heap} (h : SameBut S H H') {i : Id} {e sz : Nat} {f : Bool} {rows : List (List AC)} (hi : H i = .arr e sz f rows) (hn : i ∉ S) : H' i = .arr e sz f rows := by
  rw [h i (by rw [hi]; simp) hn, hi]

theorem Fresh.set' {H : Heap} {T : Nat} {i : Id} {o : OK} (h : Fresh H T) (hi : i.1 < T) : Fresh (hset H i o) T := h.set (Nat.le_refl _) hi
theorem Fresh.not {H : Heap} {T : Nat} (h : Fresh H T) {i : Id} (hi : H i ≠ .unborn) : (∀ k d, T ≤ k → ((k, d) = i) = False) ∧ (∀ k d, T ≤ k → (i = (k, d)) = False) ∧ i.1 < T :=
  ⟨fun k d hk => h.nee hi k d hk, fun k d hk => h.nee' hi k d hk, h.lt hi⟩
theorem Fresh.arr {H : Heap} {T : Nat} (h : Fresh H T) {i : Id} {e sz : Nat} {f : Bool} {rows : List (List AC)} (hi : H i = .arr e sz f rows) : (∀ k d, T ≤ k → ((k, d) = i) = False) ∧ (∀ k d, T ≤ k → (i = (k, d)) = False) ∧ i.1 < T :=
  h.not (by rw [hi]; simp)

/-- A heap that goes on: but for some objects all that was there is as it was; the names to come are free. -/
def ExtH (S : List Id) (H0 : Heap) (T0 : Nat) (H : Heap) (T : Nat) : Prop := SameBut S H0 H ∧ Fresh H T ∧ T0 ≤ T ∧ Fresh H0 T0

theorem ExtH.refl {S : List Id} {H : Heap} {T : Nat} (h : Fresh H T) : ExtH S H T H T := ⟨SameBut.refl S H, h, Nat.le_refl _, h⟩
theorem ExtH.tick {S : List Id} {H0 H : Heap} {T0 T T' : Nat} (h : ExtH S H0 T0 H T) (hT : T ≤ T') : ExtH S H0 T0 H T' := ⟨h.1, h.2.1.mono hT, Nat.le_trans h.2.2.1 hT, h.2.2.2⟩
theorem ExtH.new {S : List Id} {H0 H : Heap} {T0 T : Nat} {i : Id} {o : OK} (h : ExtH S H0 T0 H T) (h0 : T0 ≤ i.1) (h1 : i.1 < T) : ExtH S H0 T0 (hset H i o) T :=
  ⟨h.1.set (.inl (h.2.2.2 i.1 i.2 h0)), h.2.1.set' h1, h.2.2.1, h.2.2.2⟩
theorem ExtH.set {S : List Id} {H0 H : Heap} {T0 T : Nat} {i : Id} {o : OK} (h : ExtH S H0 T0 H T) (hi : i ∈ S) (h1 : i.1 < T) : ExtH S H0 T0 (hset H i o) T :=
  ⟨h.1.set (.inr hi), h.2.1.set' h1, h.2.2.1, h.2.2.2⟩
theorem ExtH.arr {S : List Id} {H0 H : Heap} {T0 T : Nat} (h : ExtH S H0 T0 H T) {i : Id} {e sz : Nat} {f : Bool} {rows : List (List AC)} (hi : H0 i = .arr e sz f rows) (hn : i ∉ S) : H i = .arr e sz f rows := h.1.get hi hn
theorem ExtH.fresh {S : List Id} {H0 H : Heap} {T0 T : Nat} (h : ExtH S H0 T0 H T) : Fresh H T := h.2.1

/-- A cell that holds a row of one's own: none yet, or an object made since. -/
def OwnL {α : Type} [Enc α] (H : Heap) (e sz T0 : Nat) (c : AC) (l : List α) : Prop := (c = .raw (.slice none 0 0) ∧ l = []) ∨ ∃ id, c = .so id 0 l.length ∧ T0 ≤ id.1 ∧ H id = .arr e sz false (rowsE l)
theorem OwnL.nil {α : Type} [Enc α] {H : Heap} {e sz T0 : Nat} : OwnL (α := α) H e sz T0 (.raw (.slice none 0 0)) [] := .inl ⟨rfl, rfl⟩
theorem OwnL.so {α : Type} [Enc α] {H : Heap} {e sz T0 n : Nat} {id : Id} {l : List α} (hn : n = l.length) (h0 : T0 ≤ id.1) (h : H id = .arr e sz false (rowsE l)) : OwnL H e sz T0 (.so id 0 n) l := .inr ⟨id, by rw [hn], h0, h⟩

end Go.AE

/- The abstract machine: contracts of the kit's own form as contracts of plain values. -/
set_option linter.unusedVariables false
set_option linter.unusedSimpArgs false
namespace Go.AE
open Go

variable {P : Program}

/-- A function that hands back a text, and turns nothing that was there. -/
theorem pev_str {f : FuncId} {args : List AV} {l : List UInt8} (hok : okCall P f = true) (ha : ∀ x ∈ args, ∀ c ∈ x.flat, VOK c)
    (h : ∀ (w : World) (hI : Inv P w) (F : Tag → Nat → Prop) (vs : Array Value), vs.size = args.length → (∀ (k : Nat) x, args[k]? = some x → RelV w F noHeap noLies x (vs.getD k undef)) →
      Calls P f vs w fun e w' => e = .returned (.string ⟨l.toArray⟩) ∧ RowKit.Below w.heap.size w w') : PEv P f args (.c (.str l)) := by
  refine ⟨⟨hok, by simp, ha⟩, fun w hI G vs hsz hargs nm inj => ?_⟩
  refine (h w hI _ vs hsz hargs).mono ?_
  rintro e w' ⟨rfl, hb⟩
  refine ⟨_, rfl, noLies, ⟨hb, (fun id e sz f rows hid => by cases hid), (fun id id' e sz rows e' sz' f' rows' b c s c' s' hid => by cases hid), ⟨0, fun _ _ _ => rfl⟩⟩, ?_⟩
  exact .c _ _ (.str l)

/-- A function that hands back a number, a bool, .. and turns nothing that was there. -/
theorem pev_raw {f : FuncId} {args : List AV} {u : Value} (hok : okCall P f = true) (ha : ∀ x ∈ args, ∀ c ∈ x.flat, VOK c)
    (h : ∀ (w : World) (hI : Inv P w) (F : Tag → Nat → Prop) (vs : Array Value), vs.size = args.length → (∀ (k : Nat) x, args[k]? = some x → RelV w F noHeap noLies x (vs.getD k undef)) →
      Calls P f vs w fun e w' => e = .returned u ∧ RowKit.Below w.heap.size w w') : PEv P f args (.c (.raw u)) := by
  refine ⟨⟨hok, by simp, ha⟩, fun w hI G vs hsz hargs nm inj => ?_⟩
  refine (h w hI _ vs hsz hargs).mono ?_
  rintro e w' ⟨rfl, hb⟩
  refine ⟨_, rfl, noLies, ⟨hb, (fun id e sz f rows hid => by cases hid), (fun id id' e sz rows e' sz' f' rows' b c s c' s' hid => by cases hid), ⟨0, fun _ _ _ => rfl⟩⟩, ?_⟩
  exact .c _ _ (.raw u)

theorem vs2 {vs : Array Value} {a b : Value} (hs : vs.size = 2) (h0 : vs.getD 0 undef = a) (h1 : vs.getD 1 undef = b) : vs = #[a, b] := by
  obtain ⟨l⟩ := vs
  match l, hs with
  | [x, y], _ => simp [Array.getD] at h0 h1; rw [h0, h1]
theorem vs1 {vs : Array Value} {a : Value} (hs : vs.size = 1) (h0 : vs.getD 0 undef = a) : vs = #[a] := by
  obtain ⟨l⟩ := vs
  match l, hs with
  | [x], _ => simp [Array.getD] at h0; rw [h0]

end Go.AE

/- What an argument reads as, as the abstract machine's cells. -/
set_option linter.unusedVariables false
set_option linter.unusedSimpArgs false
set_option maxHeartbeats 2000000
namespace Go.AE
open Go Go.ChangeShapes Go.WideShapes

variable {P : Program}

/-- Data of type t are α's. -/
def Opens (α : Type) [Enc α] (P : Program) (t : TypeId) (S : α → Prop) : Prop :=
  ∀ {H : Type} (enc : TypeId × Value → H) (w : World) (F : Tag → Nat → Prop) (fuel : Nat) (cs : List Value) (x : DataW H × List MemPlace), (∀ b, b < w.heap.size → F .old b) →
    DataW.trod enc P w 0 (fun _ => true) true fuel t cs = some x →
    ∃ a : α, cs.length = Enc.w α ∧ (∀ v ∈ cs, v.oneCell' = true) ∧ (∀ (k : Nat) c, (Enc.row a)[k]? = some c → RelC w F noHeap noLies c (cs.getD k undef)) ∧
      ((x.1.weights P t).all (· ≤ reachBytes) = true → S a)

theorem opens_str {t : TypeId} (ht : P.underlying t = some .string) : Opens (List UInt8) P t (fun s => s.length ≤ reachBytes) := by
  intro H enc w F fuel cs x hF h
  obtain ⟨s, rfl, rfl, hs⟩ := DataW.trod_string ht h
  refine ⟨s.data.toList, rfl, by simp [Value.oneCell'], fun k c hk => ?_, fun hw => ?_⟩
  · match k, hk with
    | 0, hk =>
      simp at hk
      subst hk
      exact .str s.data.toList
  · simpa [DataW.weights] using hw

theorem opens_int {t : TypeId} (ht : P.underlying t = some (.int .i64)) : Opens Int P t (fun n => -9223372036854775808 ≤ n ∧ n ≤ 9223372036854775807) := by
  intro H enc w F fuel cs x hF h
  obtain ⟨n, rfl, rfl, hn⟩ := DataW.trod_int ht h
  refine ⟨n, rfl, by simp [Value.oneCell'], fun k c hk => ?_, fun _ => ?_⟩
  · match k, hk with
    | 0, hk =>
      simp at hk
      subst hk
      exact .raw _
  · simp only [Lit.wf, Bool.and_eq_true, decide_eq_true_eq] at hn
    have e1 : IntKind.min .i64 = -9223372036854775808 := rfl
    have e2 : IntKind.max .i64 = 9223372036854775807 := rfl
    omega

/-- A slice's reading: one cell. -/
def OpensL (α : Type) [Enc α] (P : Program) (t : TypeId) (S : List α → Prop) : Prop :=
  ∀ {H : Type} (enc : TypeId × Value → H) (w : World) (F : Tag → Nat → Prop) (fuel : Nat) (cs : List Value) (x : DataW H × List MemPlace), (∀ b, b < w.heap.size → F .old b) →
    DataW.trod enc P w 0 (fun _ => true) true fuel t cs = some x →
    ∃ l : List α, cs.length = 1 ∧ (∀ v ∈ cs, v.oneCell' = true) ∧ RelC w F noHeap noLies (.sl .old false (rowsE l)) (cs.getD 0 undef) ∧
      ((x.1.weights P t).all (· ≤ reachBytes) = true → S l)

theorem weightsAll_mem {H : Type} {e : TypeId} : ∀ {l : List (DataW H)} {d : DataW H}, d ∈ l → ∀ n ∈ d.weights P e, n ∈ DataW.weightsAll P e l
  | [], _, h, _, _ => by simp at h
  | d :: r, _, h, n, hn => by
    rcases List.mem_cons.1 h with rfl | h
    · simp [DataW.weightsAll, hn]
    · simp [DataW.weightsAll, weightsAll_mem h n hn]

theorem opens_slice {α : Type} [Enc α] {t e : TypeId} {S : α → Prop} (ht : P.underlying t = some (.slice e)) (he : Opens α P e S) (hc : P.cellsOf e = Enc.w α) (hpos : 0 < Enc.w α) :
    OpensL α P t (fun l => l.length * P.bytesOf e ≤ reachBytes ∧ ∀ a ∈ l, S a) := by
  intro H enc w F fuel cs x hF h
  rcases DataW.trod_slice ht h with ⟨rfl, rfl⟩ | ⟨a, len, cap, elems, rest, n, _, rfl, rfl, hb, hl, hm, hlen, hel, hsp, hns⟩
  · exact ⟨[], rfl, by simp [Value.oneCell'], .slNil _ _ _ .nil, fun _ => by simp [reachBytes]⟩
  · -- the elements
    have each : ∀ i, i < len → ∃ (y : α) (cells : List Value) (d : DataW H × List MemPlace), elems[i]? = some d ∧ w.cells? 0 (a.add (i * P.cellsOf e)) (P.cellsOf e) = some cells ∧ cells.length = Enc.w α ∧ (∀ v ∈ cells, v.oneCell' = true) ∧
        (∀ (k : Nat) c, (Enc.row y)[k]? = some c → RelC w F noHeap noLies c (cells.getD k undef)) ∧ ((d.1.weights P e).all (· ≤ reachBytes) = true → S y) := fun i hi => by
      have h1 := hel i hi
      have h2 : i < elems.length := by omega
      rw [List.getElem?_eq_getElem h2, Option.bind_eq_some_iff] at h1
      obtain ⟨cells, hcells, htrod⟩ := h1
      obtain ⟨y, g1, g2, g3, g4⟩ := he enc w F n cells elems[i] hF htrod
      exact ⟨y, cells, elems[i], List.getElem?_eq_getElem h2, hcells, g1, g2, g3, g4⟩
    let ys : List α := (List.range len).attach.map fun i => Classical.choose (each i.1 (List.mem_range.1 i.2))
    have hys : ys.length = len := by simp [ys]
    have hyi : ∀ i (hi : i < len), ys[i]? = some (Classical.choose (each i hi)) := fun i hi => by
      simp [ys, hi]
    have spec := fun i (hi : i < len) => Classical.choose_spec (each i hi)
    -- the first cell tells where it lies
    have first : ∀ cells, w.cells? 0 (a.add 0) (P.cellsOf e) = some cells → a.spot = none ∧ a.block < w.heap.size := fun cells hcs => by
      obtain ⟨_, g1, g2⟩ := World.cells?_some hcs
      have g3 := g2 0 (by omega)
      have e0 : (a.add 0).add 0 = a := by simp [Addr.add]
      rw [e0, List.getElem?_eq_getElem (by omega)] at g3
      unfold World.cell? at g3
      split at g3
      · rename_i c _ _ hb
        split at g3
        · cases g3
        · rename_i hs
          exact ⟨by simpa using hs, (Array.getElem?_eq_some_iff.1 hb).1⟩
      · cases g3
    by_cases h0 : len = 0
    · have hy0 : ys = [] := List.eq_nil_of_length_eq_zero (by omega)
      have he0 : elems = [] := List.eq_nil_of_length_eq_zero (by omega)
      have rel : RelC w F noHeap noLies (.sl .old false (rowsE ([] : List α))) ((([Value.slice (some a) len cap] : List Value)).getD 0 undef) := by
        show RelC w F noHeap noLies (.sl .old false []) (.slice (some a) len cap)
        by_cases hc0 : cap = 0
        · rw [h0, hc0]; exact .slNil _ _ _ (.inr ⟨a, rfl⟩)
        · obtain ⟨r1, r2⟩ := hsp rfl
          have r3 := r2 0 (by omega)
          rw [List.getElem?_eq_getElem (by omega), Option.bind_eq_some_iff] at r3
          obtain ⟨cells, hcells, _⟩ := r3
          rw [h0] at hcells
          simp only [Nat.add_zero, Nat.zero_mul] at hcells
          obtain ⟨f1, f2⟩ := first cells hcells
          have ea : a = ⟨a.block, a.off, none⟩ := by cases a; simp at f1; subst f1; rfl
          rw [h0, ea]
          exact .sl _ _ [] a.block a.off cap 0 (fun _ => undef) f2 (hF _ f2) (by simp) (fun q => by cases q) (by simp) (by simp) (by simp) (by simp)
      exact ⟨[], rfl, by simp [Value.oneCell'], rel, fun _ => by simp [reachBytes]⟩
    · obtain ⟨_, cells0, _, _, hc0, _⟩ := each 0 (by omega)
      rw [Nat.zero_mul] at hc0
      obtain ⟨f1, f2⟩ := first cells0 hc0
      have ea : a = ⟨a.block, a.off, none⟩ := by cases a; simp at f1; subst f1; rfl
      generalize hbb : a.block = b at *
      generalize hoo : a.off = o at *
      clear hbb hoo
      subst ea
      have cellAt : ∀ i (hi : i < len) j, j < Enc.w α → ∃ u, w.cell? ⟨b, o + (i * Enc.w α + j), none⟩ = some u ∧ u.oneCell' = true ∧ ∀ c, (Enc.row (Classical.choose (each i hi)))[j]? = some c → RelC w F noHeap noLies c u := fun i hi j hj => by
        obtain ⟨cells, d, g1, g2, g3, g4, g5, g6⟩ := spec i hi
        obtain ⟨_, q1, q2⟩ := World.cells?_some g2
        have q3 := q2 j (by omega)
        rw [Addr.add_lit, Addr.add_lit, hc, List.getElem?_eq_getElem (by omega)] at q3
        refine ⟨cells[j], by rw [← Nat.add_assoc]; exact q3, g4 _ (List.getElem_mem _), fun c hcj => ?_⟩
        have := g5 j c hcj
        rwa [List.getD_eq_getElem?_getD, List.getElem?_eq_getElem (by omega), Option.getD_some] at this
      have hdm : ∀ k, k < len * Enc.w α → k / Enc.w α < len ∧ k % Enc.w α < Enc.w α ∧ k / Enc.w α * Enc.w α + k % Enc.w α = k := fun k hk =>
        ⟨Nat.div_lt_of_lt_mul (by rw [Nat.mul_comm]; exact hk), Nat.mod_lt _ hpos, by rw [Nat.mul_comm]; exact Nat.div_add_mod _ _⟩
      refine ⟨ys, rfl, by simp [Value.oneCell'], ?_, fun hw => ?_⟩
      · show RelC w F noHeap noLies (.sl .old false (rowsE ys)) (.slice (some ⟨b, o, none⟩) len cap)
        have hrl : (rowsE ys).length = len := by simp [hys]
        have := RelC.sl (w := w) (F := F) (H := noHeap) (ρ := noLies) .old false (rowsE ys) b o cap (Enc.w α) (fun k => (w.cell? ⟨b, o + k, none⟩).getD undef) f2 (hF _ f2) (by omega) (fun q => by cases q)
          (fun i r hr => by
            rw [rowsE_get?, Option.map_eq_some_iff] at hr
            obtain ⟨y, _, rfl⟩ := hr
            exact Enc.len y)
          (fun k hk => by
            rw [hrl] at hk
            obtain ⟨d1, d2, d3⟩ := hdm k hk
            obtain ⟨u, u1, _⟩ := cellAt _ d1 _ d2
            rw [d3] at u1
            rw [u1]; rfl)
          (fun k hk => by
            rw [hrl] at hk
            obtain ⟨d1, d2, d3⟩ := hdm k hk
            obtain ⟨u, u1, u2, _⟩ := cellAt _ d1 _ d2
            rw [d3] at u1
            rw [u1]; exact u2)
          (fun i j r c hr hcj => by
            rw [rowsE_get?, Option.map_eq_some_iff] at hr
            obtain ⟨y, hy, rfl⟩ := hr
            have hi : i < len := by have := (List.getElem?_eq_some_iff.1 hy).1; omega
            rw [hyi i hi] at hy
            cases hy
            have hj : j < Enc.w α := by have := (List.getElem?_eq_some_iff.1 hcj).1; rw [Enc.len] at this; exact this
            obtain ⟨u, u1, _, u3⟩ := cellAt i hi j hj
            rw [u1]; exact u3 c hcj)
        rwa [hrl] at this
      · simp only [DataW.weights, ht, List.all_cons, Bool.and_eq_true, decide_eq_true_eq, List.all_append, List.length_map] at hw
        obtain ⟨hw1, hw2, _⟩ := hw
        refine ⟨?_, fun y hy => ?_⟩
        · rw [hys]
          refine Nat.le_trans (Nat.mul_le_mul_right _ ?_) hw1
          omega
        · obtain ⟨i, hi, rfl⟩ := List.getElem_of_mem hy
          have hi' : i < len := by omega
          have e1 : ys[i] = Classical.choose (each i hi') := by
            have := hyi i hi'
            rw [List.getElem?_eq_getElem hi] at this
            exact Option.some.inj this
          rw [e1]
          obtain ⟨cells, d, g1, g2, g3, g4, g5, g6⟩ := spec i hi'
          refine g6 (List.all_eq_true.2 fun n hn => ?_)
          exact List.all_eq_true.1 hw2 n (weightsAll_mem (List.mem_map.2 ⟨d, List.mem_of_getElem? g1, rfl⟩) n hn)

end Go.AE

/- A law's call out of its contract. -/
set_option linter.unusedVariables false
set_option linter.unusedSimpArgs false
namespace Go.AE
open Go

variable {P : Program}

def anyF : Tag → Nat → Prop := fun t _ => t ≠ .new

theorem calls_true {f : FuncId} {args : List AV} (hp : PEv P f args (.c (.raw (.bool true)))) {w : World} (hI : Inv P w) {vs : Array Value} (hs : vs.size = args.length)
    (hr : ∀ (k : Nat) x, args[k]? = some x → RelV w (Fr (Ctx.of w hI fun _ _ => True) noHeap noLies) noHeap noLies x (vs.getD k undef)) :
    Calls P f vs w fun e w' => e = .returned (.bool true) ∧ RowKit.Below w.heap.size w w' := by
  refine (hp.2 w hI (fun _ _ => True) vs hs hr (fun k => (0, k)) (fun i j h => by simpa using h)).mono ?_
  rintro e w' ⟨v, rfl, ρ, hH, hR⟩
  have hv := relC_raw (relV_c hR)
  subst hv
  exact ⟨rfl, hH.below⟩

theorem fr_any {w : World} {hI : Inv P w} {t : Tag} {b : Nat} (ht : t ≠ .new) : Fr (Ctx.of w hI fun _ _ => True) noHeap noLies t b :=
  ⟨.inr ⟨ht, trivial⟩, fun ⟨_, _, _, _, _, _, h, _⟩ => by cases h⟩

end Go.AE

set_option linter.unusedVariables false
set_option linter.unusedSimpArgs false
namespace Go.AE
open Go

variable {P : Program}

theorem not_mut {b : Nat} : ¬ Mut noHeap noLies b := fun ⟨_, _, _, _, _, _, h, _⟩ => by cases h

theorem so_frz {C : Ctx P} {H : Heap} {ρ : Lies} {w : World} {id : Id} {v : Value} {e sz : Nat} {xs : List (List AC)} (hH : RelH C H ρ w) (h : RelC w (Fr C H ρ) H ρ (.so id 0 xs.length) v) (hid : H id = .arr e sz false xs)
    (hr : ∀ r ∈ xs, ∀ c ∈ r, RetOK c) : RelC w (Fr C noHeap noLies) noHeap noLies (.sl .new false xs) v := by
  have hrows : rowsOf H (.so id 0 xs.length) = some xs := by simp [rowsOf, hid]
  have hin : ∀ c u, RetOK c → RelC w (Fr C H ρ) H ρ c u → RelC w (Fr C noHeap noLies) noHeap noLies c u := fun c u hc hu => hu.noid hc fun t b _ hb => ⟨hb.1, not_mut⟩
  have hs : SoVal ρ id 0 xs.length v := by
    cases h with
    | so _ _ _ _ hk hs => exact hs (by rw [hid]; rfl)
  unfold SoVal at hs
  rcases (hH.row id e sz false xs hid).lies with ⟨q1, q2⟩ | ⟨b', cap', cur, q1, q0, q3, _⟩
  · rw [q1] at hs; subst q2; exact .slNil _ _ _ hs.2.2
  · rw [q1] at hs
    obtain ⟨o'', he, _⟩ := hs
    have hb : b' < w.heap.size := (Array.getElem?_eq_some_iff.1 q3).1
    rcases rows_rel hH h hrows with ⟨hn, rfl⟩ | ⟨b, o', cap, sz', rfl, g1, g2, g3⟩
    · exact .slNil _ _ _ hn
    · cases he
      obtain ⟨news, n1, n2, n3, n4⟩ := app_vals g1 g3
      have hbl : ∀ k, k < xs.length * sz' → ∃ u, w.cell? ⟨b', o'' + k, none⟩ = some u ∧ news[k]? = some u := fun k hk => by
        have : k < news.length := by omega
        have h1 := n2 k news[k] (List.getElem?_eq_getElem this)
        rw [Addr.add_lit] at h1
        exact ⟨_, h1, List.getElem?_eq_getElem this⟩
      refine .sl _ _ xs b' o'' _ sz' (fun k => news.getD k undef) hb ⟨.inl q0, not_mut⟩ g2 (fun e => by cases e) (fun i r hi => g1 r (List.mem_of_getElem? hi)) (fun k hk => ?_) (fun k hk => ?_) (fun i j r c hi hj => ?_)
      · obtain ⟨u, u1, u2⟩ := hbl k hk
        rw [u1]; simp [List.getD, u2]
      · obtain ⟨u, u1, u2⟩ := hbl k hk
        have : news.getD k undef = u := by simp [List.getD, u2]
        rw [this]; exact n3 u (List.mem_of_getElem? u2)
      · obtain ⟨u, u1, u2, u3⟩ := n4 i j r c hi hj
        have : news.getD (i * sz' + j) undef = u := by simp [List.getD, u1]
        rw [this]
        exact hin _ _ (hr r (List.mem_of_getElem? hi) c (List.mem_of_getElem? hj)) u3

/-- New rows are seen as rows that stay. -/
def frzC (t : Tag) : AC → AC
  | .nw _ _ xs => .sl t false xs
  | c => c
def AV.frz (t : Tag) : AV → AV
  | .c x => .c (frzC t x)
  | .g xs => .g (xs.map (frzC t))
  | .t ps => .t (ps.map fun q => (q.1, q.2.map (frzC t)))
@[simp] theorem frzC_nw {t : Tag} {e sz : Nat} {xs : List (List AC)} : frzC t (.nw e sz xs) = .sl t false xs := rfl
@[simp] theorem frzC_raw {t : Tag} {v : Value} : frzC t (.raw v) = .raw v := rfl
@[simp] theorem frzC_str {t : Tag} {l : List UInt8} : frzC t (.str l) = .str l := rfl
@[simp] theorem frzC_sl {t t' : Tag} {cl : Bool} {xs : List (List AC)} : frzC t (.sl t' cl xs) = .sl t' cl xs := rfl

theorem flatT_frz {t : Tag} : ∀ ps : List (Bool × List AC), flatT (ps.map fun q => (q.1, q.2.map (frzC t))) = (flatT ps).map (frzC t)
  | [] => rfl
  | (b, cs) :: r => by simp [flatT, flatT_frz r]
theorem flat_frz {t : Tag} (v : AV) : (v.frz t).flat = v.flat.map (frzC t) := by
  cases v with
  | c x => rfl
  | g xs => rfl
  | t ps => exact flatT_frz ps

theorem frzC_not {t : Tag} {c : AC} {e sz : Nat} {xs : List (List AC)} : frzC t c ≠ .nw e sz xs := by cases c <;> simp [frzC]
theorem adC_frz {t : Tag} {nm : Nat → Id} {k : Nat} {c : AC} : adC nm k (frzC t c) = frzC t c := by cases c <;> rfl
theorem adL_frz {t : Tag} {nm : Nat → Id} : ∀ (cs : List AC) (k : Nat), adL nm k (cs.map (frzC t)) = cs.map (frzC t)
  | [], _ => rfl
  | c :: cs, k => by simp [adL, adC_frz, adL_frz cs]
theorem adT_frz {t : Tag} {nm : Nat → Id} : ∀ (ps : List (Bool × List AC)) (k : Nat), adT nm k (ps.map fun q => (q.1, q.2.map (frzC t))) = ps.map fun q => (q.1, q.2.map (frzC t))
  | [], _ => rfl
  | (b, cs) :: r, k => by simp [adT, adL_frz, adT_frz r]
theorem ad_frz {t : Tag} {nm : Nat → Id} (v : AV) : (v.frz t).ad nm = v.frz t := by
  cases v with
  | c x => simp [AV.frz, AV.ad, adC_frz]
  | g xs => simp [AV.frz, AV.ad, adL_frz]
  | t ps => simp [AV.frz, AV.ad, adT_frz]
theorem adH_frz {t : Tag} {nm : Nat → Id} {H : Heap} : ∀ (cs : List AC) (k : Nat), adH nm k (cs.map (frzC t)) H = H
  | [], _ => rfl
  | c :: cs, k => by
    simp only [List.map_cons, adH]
    have : adH1 (nm k) (frzC t c) H = H := by cases c <;> rfl
    rw [this, adH_frz cs]

theorem adL_at {nm : Nat → Id} : ∀ (cs : List AC) (k j : Nat), (adL nm k cs)[j]? = (cs[j]?).map (adC nm (k + j))
  | [], _, _ => by simp [adL]
  | c :: cs, k, 0 => by simp [adL]
  | c :: cs, k, j + 1 => by
    simp only [adL, List.getElem?_cons_succ]
    rw [adL_at cs]
    congr 2
    omega
theorem adL_len {nm : Nat → Id} : ∀ (cs : List AC) (k : Nat), (adL nm k cs).length = cs.length
  | [], _ => rfl
  | c :: cs, k => by simp [adL, adL_len cs]

/-- THE CALL's NEW ROWS AS ROWS THAT STAY. -/
theorem PEv.frz {f : FuncId} {args : List AV} {ret : AV} (t : Tag) (ht : t ≠ .brw) (h : PEv P f args ret) : PEv P f args (ret.frz t) := by
  obtain ⟨⟨h1, h2, h3⟩, h4⟩ := h
  refine ⟨⟨h1, ?_, h3⟩, fun w hI G vs hs hr nm inj => (h4 w hI G vs hs hr nm inj).mono ?_⟩
  · intro c hc
    rw [flat_frz, List.mem_map] at hc
    obtain ⟨d, hd, rfl⟩ := hc
    have := h2 d hd
    cases d with
    | nw e sz xs => exact .sl _ _ _ ht this
    | _ => exact this
  · rintro e w' ⟨v, rfl, ρ, hH, hR⟩
    refine ⟨v, rfl, noLies, ?_⟩
    rw [flat_frz, adH_frz, ad_frz]
    refine ⟨⟨hH.below, (fun id e sz f rows h => by cases h), (fun id id' e sz rows e' sz' frz' rows' b c s c' s' h => by cases h), ⟨0, fun _ _ _ => rfl⟩⟩, ?_⟩
    -- a cell at its place
    have cell : ∀ (j : Nat) c u, ret.flat[j]? = some c → RelC w' (Fr (Ctx.of w hI G) (adH nm 0 ret.flat noHeap) ρ) (adH nm 0 ret.flat noHeap) ρ (adC nm j c) u → RelC w' (Fr (Ctx.of w hI G) noHeap noLies) noHeap noLies (frzC t c) u := fun j c u hj hu => by
      have hc := h2 c (List.mem_of_getElem? hj)
      have keep : RetOK c → RelC w' (Fr (Ctx.of w hI G) (adH nm 0 ret.flat noHeap) ρ) (adH nm 0 ret.flat noHeap) ρ c u → RelC w' (Fr (Ctx.of w hI G) noHeap noLies) noHeap noLies c u := fun hc hu =>
        hu.noid hc fun t b _ hb => ⟨hb.1, not_mut⟩
      cases c with
      | nw e sz xs =>
        have hid : adH nm 0 ret.flat noHeap (nm j) = .arr e sz false xs := by
          rcases adH_get nm ret.flat 0 noHeap (nm j) inj with ⟨j', e', sz', xs', g1, g2, g3⟩ | ⟨g1, _⟩
          · have := inj _ _ g2
            rw [Nat.zero_add] at this
            subst this
            rw [hj] at g1
            cases g1
            exact g3
          · exact (g1 j e sz xs hj (by rw [Nat.zero_add])).elim
        have := so_frz hH hu hid hc
        cases this with
        | slNil _ _ _ h => exact .slNil _ _ _ h
        | sl _ _ _ b o cap sz vs hb hf hcap hcl hr hcell hone hrel =>
          refine .sl t false xs b o cap sz vs hb ⟨?_, hf.2⟩ hcap (fun e => by cases e) hr hcell hone hrel
          rcases hf.1 with q | ⟨q, _⟩
          · exact .inl q
          · exact (q rfl).elim
      | _ => exact keep hc hu
    cases ret with
    | c x =>
      cases hR with
      | c _ _ hx => exact .c _ _ (cell 0 x _ rfl hx)
    | g xs =>
      cases hR with
      | g _ vs hl hx =>
        refine .g _ _ (by rw [adL_len] at hl; simpa using hl) fun k c hk => ?_
        rw [List.getElem?_map, Option.map_eq_some_iff] at hk
        obtain ⟨d, hd, rfl⟩ := hk
        exact cell k d _ hd (hx k _ (by rw [adL_at, hd, Nat.zero_add]; rfl))
    | t ps =>
      cases hR with
      | t _ vs hl hx =>
        have len : ∀ (ps : List (Bool × List AC)) (k : Nat), (adT nm k ps).length = ps.length := fun ps => by
          induction ps with
          | nil => intro k; rfl
          | cons q r ih => intro k; obtain ⟨b, cs⟩ := q; simp [adT, ih]
        have at_ : ∀ (ps : List (Bool × List AC)) (k j : Nat) b cs, ps[j]? = some (b, cs) → ∃ o, (adT nm k ps)[j]? = some (b, adL nm (k + o) cs) ∧ ∀ (i : Nat) c, cs[i]? = some c → (flatT ps)[o + i]? = some c := fun ps => by
          induction ps with
          | nil => intro k j b cs h; simp at h
          | cons q r ih =>
            intro k j b cs h
            obtain ⟨b0, cs0⟩ := q
            cases j with
            | zero =>
              simp at h
              obtain ⟨rfl, rfl⟩ := h
              refine ⟨0, by simp [adT], fun i c hi => ?_⟩
              simp only [flatT, Nat.zero_add]
              rw [List.getElem?_append_left (List.getElem?_eq_some_iff.1 hi).1]
              exact hi
            | succ j =>
              obtain ⟨o, o1, o2⟩ := ih (k + cs0.length) j b cs (by simpa using h)
              refine ⟨cs0.length + o, by simp only [adT, List.getElem?_cons_succ]; rw [o1]; congr 3; omega, fun i c hi => ?_⟩
              simp only [flatT]
              rw [List.getElem?_append_right (by omega), show cs0.length + o + i - cs0.length = o + i from by omega]
              exact o2 i c hi
        refine .t _ _ (by rw [len] at hl; simpa using hl) fun k b cs hk => ?_
        rw [List.getElem?_map, Option.map_eq_some_iff] at hk
        obtain ⟨⟨b0, cs0⟩, hd, he⟩ := hk
        simp only [Prod.mk.injEq] at he
        obtain ⟨rfl, rfl⟩ := he
        obtain ⟨o, o1, o2⟩ := at_ ps 0 k b0 cs0 hd
        rw [Nat.zero_add] at o1
        have := hx k b0 _ o1
        generalize hu : vs.getD k undef = u at this
        generalize hcs : adL nm o cs0 = cs1 at this
        cases this with
        | c x _ hx =>
          match cs0, hcs with
          | [c0], hcs =>
            simp [adL] at hcs
            subst hcs
            exact .c _ _ (cell o c0 _ (o2 0 c0 rfl) hx)
          | [], hcs => simp [adL] at hcs
          | _ :: _ :: _, hcs => simp [adL] at hcs
        | g _ us hlu hu =>
          subst hcs
          refine .g _ _ (by rw [adL_len] at hlu; simpa using hlu) fun i c hi => ?_
          rw [List.getElem?_map, Option.map_eq_some_iff] at hi
          obtain ⟨d, hd, rfl⟩ := hi
          exact cell (o + i) d _ (o2 i d hd) (hu i _ (by rw [adL_at, hd]; rfl))

theorem PEv.frz2 {f : FuncId} {args : List AV} {e1 s1 e2 s2 : Nat} {xs1 xs2 : List (List AC)} (h : PEv P f args (.g [.nw e1 s1 xs1, .nw e2 s2 xs2])) : PEv P f args (.g [.sl .new false xs1, .sl .new false xs2]) :=
  h.frz .new (by simp)

end Go.AE
