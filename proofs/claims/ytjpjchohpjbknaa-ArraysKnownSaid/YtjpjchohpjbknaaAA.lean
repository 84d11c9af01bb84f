/- Arrays: the functions of the program. -/
import Derived.Test.YtjpjchohpjbknaaChecked
import Derived.Test.YtjpjchohpjbknaaEngB
import Derived.KernelRfl
import Derived.Test.YtjpjchohpjbknaaEngD

set_option linter.unusedVariables false
set_option linter.unusedSimpArgs false

/- The table of types that the walks use: each row is checked against the loaded program. By a small program (gen_tab.py). -/
namespace Go.Proofs.Ytjpjchohpjbknaa
open Go.Eng
-- 1: func()
abbrev r1 : TyR := { desc := .cell, size := 1, bytes := 8, zero := .sc .nilFunc }
theorem ty1 : TyOk Try.prog 1 r1 := TyOk.mk' (by kernel_rfl) (by kernel_rfl) Try.underlying1 (by kernel_rfl) (by kernel_rfl)
-- 2: int64
abbrev r2 : TyR := { desc := .int .i64, size := 1, bytes := 8, zero := .sc (.int .i64 0) }
theorem ty2 : TyOk Try.prog 2 r2 := TyOk.mk' (by kernel_rfl) (by kernel_rfl) Try.underlying2 (by kernel_rfl) (by kernel_rfl)
-- 3: int
abbrev r3 : TyR := { desc := .int .i64, size := 1, bytes := 8, zero := .sc (.int .i64 0) }
theorem ty3 : TyOk Try.prog 3 r3 := TyOk.mk' (by kernel_rfl) (by kernel_rfl) Try.underlying3 (by kernel_rfl) (by kernel_rfl)
-- 4: bool
abbrev r4 : TyR := { desc := .bool, size := 1, bytes := 1, zero := .sc (.bool false) }
theorem ty4 : TyOk Try.prog 4 r4 := TyOk.mk' (by kernel_rfl) (by kernel_rfl) Try.underlying4 (by kernel_rfl) (by kernel_rfl)
-- 5: uint8
abbrev r5 : TyR := { desc := .int .u8, size := 1, bytes := 1, zero := .sc (.int .u8 0) }
theorem ty5 : TyOk Try.prog 5 r5 := TyOk.mk' (by kernel_rfl) (by kernel_rfl) Try.underlying5 (by kernel_rfl) (by kernel_rfl)
-- 9: string
abbrev r9 : TyR := { desc := .string, size := 1, bytes := 16, zero := .sc (.string ⟨#[]⟩) }
theorem ty9 : TyOk Try.prog 9 r9 := TyOk.mk' (by kernel_rfl) (by kernel_rfl) Try.underlying9 (by kernel_rfl) (by kernel_rfl)
-- 12: uintptr
abbrev r12 : TyR := { desc := .int .u64, size := 1, bytes := 8, zero := .sc (.int .u64 0) }
theorem ty12 : TyOk Try.prog 12 r12 := TyOk.mk' (by kernel_rfl) (by kernel_rfl) Try.underlying12 (by kernel_rfl) (by kernel_rfl)
-- 13: struct ( msg string; addr uintptr )
abbrev r13 : TyR := { desc := .struct [(0, 9), (1, 12)], size := 2, bytes := 24, zero := .cons (.sc (.string ⟨#[]⟩)) (.cons (.sc (.int .u64 0)) (.nil)) }
theorem ty13 : TyOk Try.prog 13 r13 := TyOk.mk' (by kernel_rfl) (by kernel_rfl) Try.underlying13 (by kernel_rfl) (by kernel_rfl)
-- 20: interface ()
abbrev r20 : TyR := { desc := .cell, size := 1, bytes := 16, zero := .sc .nilIface }
theorem ty20 : TyOk Try.prog 20 r20 := TyOk.mk' (by kernel_rfl) (by kernel_rfl) Try.underlying20 (by kernel_rfl) (by kernel_rfl)
-- 21: int32
abbrev r21 : TyR := { desc := .int .i32, size := 1, bytes := 4, zero := .sc (.int .i32 0) }
theorem ty21 : TyOk Try.prog 21 r21 := TyOk.mk' (by kernel_rfl) (by kernel_rfl) Try.underlying21 (by kernel_rfl) (by kernel_rfl)
-- 22: [][3]uint8
abbrev r22 : TyR := { desc := .slice 56, size := 1, bytes := 24, zero := .sc (.slice none 0 0) }
theorem ty22 : TyOk Try.prog 22 r22 := TyOk.mk' (by kernel_rfl) (by kernel_rfl) Try.underlying22 (by kernel_rfl) (by kernel_rfl)
-- 23: struct ( Blocks uint8; Ops [][3]uint8 )
abbrev r23 : TyR := { desc := .struct [(0, 5), (1, 22)], size := 2, bytes := 32, zero := .cons (.sc (.int .u8 0)) (.cons (.sc (.slice none 0 0)) (.nil)) }
theorem ty23 : TyOk Try.prog 23 r23 := TyOk.mk' (by kernel_rfl) (by kernel_rfl) Try.underlying23 (by kernel_rfl) (by kernel_rfl)
-- 24: caissonlaw21.O
abbrev r24 : TyR := { desc := .struct [(0, 5), (1, 22)], size := 2, bytes := 32, zero := .cons (.sc (.int .u8 0)) (.cons (.sc (.slice none 0 0)) (.nil)) }
theorem ty24 : TyOk Try.prog 24 r24 := TyOk.mk' (by kernel_rfl) (by kernel_rfl) Try.underlying24 (by kernel_rfl) (by kernel_rfl)
-- 25: []api.Op
abbrev r25 : TyR := { desc := .slice 47, size := 1, bytes := 24, zero := .sc (.slice none 0 0) }
theorem ty25 : TyOk Try.prog 25 r25 := TyOk.mk' (by kernel_rfl) (by kernel_rfl) Try.underlying25 (by kernel_rfl) (by kernel_rfl)
-- 27: func() (int, []api.Op)
abbrev r27 : TyR := { desc := .cell, size := 1, bytes := 8, zero := .sc .nilFunc }
theorem ty27 : TyOk Try.prog 27 r27 := TyOk.mk' (by kernel_rfl) (by kernel_rfl) Try.underlying27 (by kernel_rfl) (by kernel_rfl)
-- 28: []api.Block
abbrev r28 : TyR := { desc := .slice 41, size := 1, bytes := 24, zero := .sc (.slice none 0 0) }
theorem ty28 : TyOk Try.prog 28 r28 := TyOk.mk' (by kernel_rfl) (by kernel_rfl) Try.underlying28 (by kernel_rfl) (by kernel_rfl)
-- 29: struct ( Now []api.Block; Durable []api.Block )
abbrev r29 : TyR := { desc := .struct [(0, 28), (1, 28)], size := 2, bytes := 48, zero := .cons (.sc (.slice none 0 0)) (.cons (.sc (.slice none 0 0)) (.nil)) }
theorem ty29 : TyOk Try.prog 29 r29 := TyOk.mk' (by kernel_rfl) (by kernel_rfl) Try.underlying29 (by kernel_rfl) (by kernel_rfl)
-- 30: arrays.Array
abbrev r30 : TyR := { desc := .struct [(0, 28), (1, 28)], size := 2, bytes := 48, zero := .cons (.sc (.slice none 0 0)) (.cons (.sc (.slice none 0 0)) (.nil)) }
theorem ty30 : TyOk Try.prog 30 r30 := TyOk.mk' (by kernel_rfl) (by kernel_rfl) Try.underlying30 (by kernel_rfl) (by kernel_rfl)
-- 31: api.Errno
abbrev r31 : TyR := { desc := .int .i64, size := 1, bytes := 8, zero := .sc (.int .i64 0) }
theorem ty31 : TyOk Try.prog 31 r31 := TyOk.mk' (by kernel_rfl) (by kernel_rfl) Try.underlying31 (by kernel_rfl) (by kernel_rfl)
-- 33: func(int) (arrays.Array, api.Errno)
abbrev r33 : TyR := { desc := .cell, size := 1, bytes := 8, zero := .sc .nilFunc }
theorem ty33 : TyOk Try.prog 33 r33 := TyOk.mk' (by kernel_rfl) (by kernel_rfl) Try.underlying33 (by kernel_rfl) (by kernel_rfl)
-- 34: func(arrays.Array, caissonref21.A) int
abbrev r34 : TyR := { desc := .cell, size := 1, bytes := 8, zero := .sc .nilFunc }
theorem ty34 : TyOk Try.prog 34 r34 := TyOk.mk' (by kernel_rfl) (by kernel_rfl) Try.underlying34 (by kernel_rfl) (by kernel_rfl)
-- 35: caissonref21.A
abbrev r35 : TyR := { desc := .struct [(0, 28), (1, 28)], size := 2, bytes := 48, zero := .cons (.sc (.slice none 0 0)) (.cons (.sc (.slice none 0 0)) (.nil)) }
theorem ty35 : TyOk Try.prog 35 r35 := TyOk.mk' (by kernel_rfl) (by kernel_rfl) Try.underlying35 (by kernel_rfl) (by kernel_rfl)
-- 36: func(int) caissonref21.A
abbrev r36 : TyR := { desc := .cell, size := 1, bytes := 8, zero := .sc .nilFunc }
theorem ty36 : TyOk Try.prog 36 r36 := TyOk.mk' (by kernel_rfl) (by kernel_rfl) Try.underlying36 (by kernel_rfl) (by kernel_rfl)
-- 37: []arrays.Result
abbrev r37 : TyR := { desc := .slice 49, size := 1, bytes := 24, zero := .sc (.slice none 0 0) }
theorem ty37 : TyOk Try.prog 37 r37 := TyOk.mk' (by kernel_rfl) (by kernel_rfl) Try.underlying37 (by kernel_rfl) (by kernel_rfl)
-- 39: func(arrays.Array, []api.Op) (arrays.Array, []arrays.Result, api.Errno)
abbrev r39 : TyR := { desc := .cell, size := 1, bytes := 8, zero := .sc .nilFunc }
theorem ty39 : TyOk Try.prog 39 r39 := TyOk.mk' (by kernel_rfl) (by kernel_rfl) Try.underlying39 (by kernel_rfl) (by kernel_rfl)
-- 40: [32]uint8
abbrev r40 : TyR := { desc := .array 32 5, size := 32, bytes := 32, zero := .vec 32 1 encU8 (List.replicate 32 0) }
theorem ty40 : TyOk Try.prog 40 r40 := TyOk.mk' (by kernel_rfl) (by kernel_rfl) Try.underlying40 (by kernel_rfl) (by kernel_rfl)
-- 41: api.Block
abbrev r41 : TyR := { desc := .array 32 5, size := 32, bytes := 32, zero := .vec 32 1 encU8 (List.replicate 32 0) }
theorem ty41 : TyOk Try.prog 41 r41 := TyOk.mk' (by kernel_rfl) (by kernel_rfl) Try.underlying41 (by kernel_rfl) (by kernel_rfl)
-- 43: func(caissonref21.A, api.Op) (caissonref21.A, api.Block, api.Errno)
abbrev r43 : TyR := { desc := .cell, size := 1, bytes := 8, zero := .sc .nilFunc }
theorem ty43 : TyOk Try.prog 43 r43 := TyOk.mk' (by kernel_rfl) (by kernel_rfl) Try.underlying43 (by kernel_rfl) (by kernel_rfl)
-- 44: api.OpKind
abbrev r44 : TyR := { desc := .int .u8, size := 1, bytes := 1, zero := .sc (.int .u8 0) }
theorem ty44 : TyOk Try.prog 44 r44 := TyOk.mk' (by kernel_rfl) (by kernel_rfl) Try.underlying44 (by kernel_rfl) (by kernel_rfl)
-- 45: []uint8
abbrev r45 : TyR := { desc := .slice 5, size := 1, bytes := 24, zero := .sc (.slice none 0 0) }
theorem ty45 : TyOk Try.prog 45 r45 := TyOk.mk' (by kernel_rfl) (by kernel_rfl) Try.underlying45 (by kernel_rfl) (by kernel_rfl)
-- 46: struct ( Kind api.OpKind; Index int; Data []uint8 )
abbrev r46 : TyR := { desc := .struct [(0, 44), (1, 3), (2, 45)], size := 3, bytes := 40, zero := .cons (.sc (.int .u8 0)) (.cons (.sc (.int .i64 0)) (.cons (.sc (.slice none 0 0)) (.nil))) }
theorem ty46 : TyOk Try.prog 46 r46 := TyOk.mk' (by kernel_rfl) (by kernel_rfl) Try.underlying46 (by kernel_rfl) (by kernel_rfl)
-- 47: api.Op
abbrev r47 : TyR := { desc := .struct [(0, 44), (1, 3), (2, 45)], size := 3, bytes := 40, zero := .cons (.sc (.int .u8 0)) (.cons (.sc (.int .i64 0)) (.cons (.sc (.slice none 0 0)) (.nil))) }
theorem ty47 : TyOk Try.prog 47 r47 := TyOk.mk' (by kernel_rfl) (by kernel_rfl) Try.underlying47 (by kernel_rfl) (by kernel_rfl)
-- 48: struct ( Value api.Block; Err api.Errno )
abbrev r48 : TyR := { desc := .struct [(0, 41), (32, 31)], size := 33, bytes := 40, zero := .cons (.vec 32 1 encU8 (List.replicate 32 0)) (.cons (.sc (.int .i64 0)) (.nil)) }
theorem ty48 : TyOk Try.prog 48 r48 := TyOk.mk' (by kernel_rfl) (by kernel_rfl) Try.underlying48 (by kernel_rfl) (by kernel_rfl)
-- 49: arrays.Result
abbrev r49 : TyR := { desc := .struct [(0, 41), (32, 31)], size := 33, bytes := 40, zero := .cons (.vec 32 1 encU8 (List.replicate 32 0)) (.cons (.sc (.int .i64 0)) (.nil)) }
theorem ty49 : TyOk Try.prog 49 r49 := TyOk.mk' (by kernel_rfl) (by kernel_rfl) Try.underlying49 (by kernel_rfl) (by kernel_rfl)
-- 51: func(arrays.Array, api.Op) (arrays.Array, arrays.Result, api.Errno)
abbrev r51 : TyR := { desc := .cell, size := 1, bytes := 8, zero := .sc .nilFunc }
theorem ty51 : TyOk Try.prog 51 r51 := TyOk.mk' (by kernel_rfl) (by kernel_rfl) Try.underlying51 (by kernel_rfl) (by kernel_rfl)
-- 52: func(int, api.Op) bool
abbrev r52 : TyR := { desc := .cell, size := 1, bytes := 8, zero := .sc .nilFunc }
theorem ty52 : TyOk Try.prog 52 r52 := TyOk.mk' (by kernel_rfl) (by kernel_rfl) Try.underlying52 (by kernel_rfl) (by kernel_rfl)
-- 53: func(arrays.Array) api.Errno
abbrev r53 : TyR := { desc := .cell, size := 1, bytes := 8, zero := .sc .nilFunc }
theorem ty53 : TyOk Try.prog 53 r53 := TyOk.mk' (by kernel_rfl) (by kernel_rfl) Try.underlying53 (by kernel_rfl) (by kernel_rfl)
-- 54: func() bool
abbrev r54 : TyR := { desc := .cell, size := 1, bytes := 8, zero := .sc .nilFunc }
theorem ty54 : TyOk Try.prog 54 r54 := TyOk.mk' (by kernel_rfl) (by kernel_rfl) Try.underlying54 (by kernel_rfl) (by kernel_rfl)
-- 55: func(caissonlaw21.O) bool
abbrev r55 : TyR := { desc := .cell, size := 1, bytes := 8, zero := .sc .nilFunc }
theorem ty55 : TyOk Try.prog 55 r55 := TyOk.mk' (by kernel_rfl) (by kernel_rfl) Try.underlying55 (by kernel_rfl) (by kernel_rfl)
-- 56: [3]uint8
abbrev r56 : TyR := { desc := .array 3 5, size := 3, bytes := 3, zero := .vec 3 1 encU8 (List.replicate 3 0) }
theorem ty56 : TyOk Try.prog 56 r56 := TyOk.mk' (by kernel_rfl) (by kernel_rfl) Try.underlying56 (by kernel_rfl) (by kernel_rfl)
-- 57: func(caissonref21.A) arrays.Array
abbrev r57 : TyR := { desc := .cell, size := 1, bytes := 8, zero := .sc .nilFunc }
theorem ty57 : TyOk Try.prog 57 r57 := TyOk.mk' (by kernel_rfl) (by kernel_rfl) Try.underlying57 (by kernel_rfl) (by kernel_rfl)
-- 58: func() caissonref21.A
abbrev r58 : TyR := { desc := .cell, size := 1, bytes := 8, zero := .sc .nilFunc }
theorem ty58 : TyOk Try.prog 58 r58 := TyOk.mk' (by kernel_rfl) (by kernel_rfl) Try.underlying58 (by kernel_rfl) (by kernel_rfl)
-- 59: func(int, [3]uint8) api.Op
abbrev r59 : TyR := { desc := .cell, size := 1, bytes := 8, zero := .sc .nilFunc }
theorem ty59 : TyOk Try.prog 59 r59 := TyOk.mk' (by kernel_rfl) (by kernel_rfl) Try.underlying59 (by kernel_rfl) (by kernel_rfl)
-- 60: func(arrays.Array, arrays.Array) bool
abbrev r60 : TyR := { desc := .cell, size := 1, bytes := 8, zero := .sc .nilFunc }
theorem ty60 : TyOk Try.prog 60 r60 := TyOk.mk' (by kernel_rfl) (by kernel_rfl) Try.underlying60 (by kernel_rfl) (by kernel_rfl)
-- 61: func(arrays.Array) (arrays.Array, api.Errno)
abbrev r61 : TyR := { desc := .cell, size := 1, bytes := 8, zero := .sc .nilFunc }
theorem ty61 : TyOk Try.prog 61 r61 := TyOk.mk' (by kernel_rfl) (by kernel_rfl) Try.underlying61 (by kernel_rfl) (by kernel_rfl)
-- 62: func(caissonlaw21.O, [3]uint8, [3]uint8) bool
abbrev r62 : TyR := { desc := .cell, size := 1, bytes := 8, zero := .sc .nilFunc }
theorem ty62 : TyOk Try.prog 62 r62 := TyOk.mk' (by kernel_rfl) (by kernel_rfl) Try.underlying62 (by kernel_rfl) (by kernel_rfl)
-- 63: []int
abbrev r63 : TyR := { desc := .slice 3, size := 1, bytes := 24, zero := .sc (.slice none 0 0) }
theorem ty63 : TyOk Try.prog 63 r63 := TyOk.mk' (by kernel_rfl) (by kernel_rfl) Try.underlying63 (by kernel_rfl) (by kernel_rfl)
-- 65: func(arrays.Array, arrays.Array) ([]int, api.Errno)
abbrev r65 : TyR := { desc := .cell, size := 1, bytes := 8, zero := .sc .nilFunc }
theorem ty65 : TyOk Try.prog 65 r65 := TyOk.mk' (by kernel_rfl) (by kernel_rfl) Try.underlying65 (by kernel_rfl) (by kernel_rfl)
-- 67: func(arrays.Array, int) (api.Block, api.Errno)
abbrev r67 : TyR := { desc := .cell, size := 1, bytes := 8, zero := .sc .nilFunc }
theorem ty67 : TyOk Try.prog 67 r67 := TyOk.mk' (by kernel_rfl) (by kernel_rfl) Try.underlying67 (by kernel_rfl) (by kernel_rfl)
-- 68: func(arrays.Array, int, api.Block) (arrays.Array, api.Errno)
abbrev r68 : TyR := { desc := .cell, size := 1, bytes := 8, zero := .sc .nilFunc }
theorem ty68 : TyOk Try.prog 68 r68 := TyOk.mk' (by kernel_rfl) (by kernel_rfl) Try.underlying68 (by kernel_rfl) (by kernel_rfl)
-- 69: func(arrays.Array, api.Op, int) bool
abbrev r69 : TyR := { desc := .cell, size := 1, bytes := 8, zero := .sc .nilFunc }
theorem ty69 : TyOk Try.prog 69 r69 := TyOk.mk' (by kernel_rfl) (by kernel_rfl) Try.underlying69 (by kernel_rfl) (by kernel_rfl)
-- 70: func([]api.Block, []api.Block) bool
abbrev r70 : TyR := { desc := .cell, size := 1, bytes := 8, zero := .sc .nilFunc }
theorem ty70 : TyOk Try.prog 70 r70 := TyOk.mk' (by kernel_rfl) (by kernel_rfl) Try.underlying70 (by kernel_rfl) (by kernel_rfl)
-- 71: func(caissonlaw21.O, caissonlaw21.O) bool
abbrev r71 : TyR := { desc := .cell, size := 1, bytes := 8, zero := .sc .nilFunc }
theorem ty71 : TyOk Try.prog 71 r71 := TyOk.mk' (by kernel_rfl) (by kernel_rfl) Try.underlying71 (by kernel_rfl) (by kernel_rfl)
-- 72: func(uint8) api.Block
abbrev r72 : TyR := { desc := .cell, size := 1, bytes := 8, zero := .sc .nilFunc }
theorem ty72 : TyOk Try.prog 72 r72 := TyOk.mk' (by kernel_rfl) (by kernel_rfl) Try.underlying72 (by kernel_rfl) (by kernel_rfl)
-- 73: []ledgers.Use
abbrev r73 : TyR := { desc := .slice 84, size := 1, bytes := 24, zero := .sc (.slice none 0 0) }
theorem ty73 : TyOk Try.prog 73 r73 := TyOk.mk' (by kernel_rfl) (by kernel_rfl) Try.underlying73 (by kernel_rfl) (by kernel_rfl)
-- 74: func([]ledgers.Use) int
abbrev r74 : TyR := { desc := .cell, size := 1, bytes := 8, zero := .sc .nilFunc }
theorem ty74 : TyOk Try.prog 74 r74 := TyOk.mk' (by kernel_rfl) (by kernel_rfl) Try.underlying74 (by kernel_rfl) (by kernel_rfl)
-- 75: func(ledgers.Use) string
abbrev r75 : TyR := { desc := .cell, size := 1, bytes := 8, zero := .sc .nilFunc }
theorem ty75 : TyOk Try.prog 75 r75 := TyOk.mk' (by kernel_rfl) (by kernel_rfl) Try.underlying75 (by kernel_rfl) (by kernel_rfl)
-- 76: [16]uint8
abbrev r76 : TyR := { desc := .array 16 5, size := 16, bytes := 16, zero := .vec 16 1 encU8 (List.replicate 16 0) }
theorem ty76 : TyOk Try.prog 76 r76 := TyOk.mk' (by kernel_rfl) (by kernel_rfl) Try.underlying76 (by kernel_rfl) (by kernel_rfl)
-- 77: uint32
abbrev r77 : TyR := { desc := .int .u32, size := 1, bytes := 4, zero := .sc (.int .u32 0) }
theorem ty77 : TyOk Try.prog 77 r77 := TyOk.mk' (by kernel_rfl) (by kernel_rfl) Try.underlying77 (by kernel_rfl) (by kernel_rfl)
-- 78: uint64
abbrev r78 : TyR := { desc := .int .u64, size := 1, bytes := 8, zero := .sc (.int .u64 0) }
theorem ty78 : TyOk Try.prog 78 r78 := TyOk.mk' (by kernel_rfl) (by kernel_rfl) Try.underlying78 (by kernel_rfl) (by kernel_rfl)
-- 79: struct ( Shard uint32; Counter uint64 )
abbrev r79 : TyR := { desc := .struct [(0, 77), (1, 78)], size := 2, bytes := 16, zero := .cons (.sc (.int .u32 0)) (.cons (.sc (.int .u64 0)) (.nil)) }
theorem ty79 : TyOk Try.prog 79 r79 := TyOk.mk' (by kernel_rfl) (by kernel_rfl) Try.underlying79 (by kernel_rfl) (by kernel_rfl)
-- 80: api.Nonce
abbrev r80 : TyR := { desc := .struct [(0, 77), (1, 78)], size := 2, bytes := 16, zero := .cons (.sc (.int .u32 0)) (.cons (.sc (.int .u64 0)) (.nil)) }
theorem ty80 : TyOk Try.prog 80 r80 := TyOk.mk' (by kernel_rfl) (by kernel_rfl) Try.underlying80 (by kernel_rfl) (by kernel_rfl)
-- 81: struct ( Nonce api.Nonce; First uint32; Last uint32 )
abbrev r81 : TyR := { desc := .struct [(0, 80), (2, 77), (3, 77)], size := 4, bytes := 24, zero := .cons (.cons (.sc (.int .u32 0)) (.cons (.sc (.int .u64 0)) (.nil))) (.cons (.sc (.int .u32 0)) (.cons (.sc (.int .u32 0)) (.nil))) }
theorem ty81 : TyOk Try.prog 81 r81 := TyOk.mk' (by kernel_rfl) (by kernel_rfl) Try.underlying81 (by kernel_rfl) (by kernel_rfl)
-- 82: streams.Range
abbrev r82 : TyR := { desc := .struct [(0, 80), (2, 77), (3, 77)], size := 4, bytes := 24, zero := .cons (.cons (.sc (.int .u32 0)) (.cons (.sc (.int .u64 0)) (.nil))) (.cons (.sc (.int .u32 0)) (.cons (.sc (.int .u32 0)) (.nil))) }
theorem ty82 : TyOk Try.prog 82 r82 := TyOk.mk' (by kernel_rfl) (by kernel_rfl) Try.underlying82 (by kernel_rfl) (by kernel_rfl)
-- 83: struct ( Key [16]uint8; Range streams.Range )
abbrev r83 : TyR := { desc := .struct [(0, 76), (16, 82)], size := 20, bytes := 40, zero := .cons (.vec 16 1 encU8 (List.replicate 16 0)) (.cons (.cons (.cons (.sc (.int .u32 0)) (.cons (.sc (.int .u64 0)) (.nil))) (.cons (.sc (.int .u32 0)) (.cons (.sc (.int .u32 0)) (.nil)))) (.nil)) }
theorem ty83 : TyOk Try.prog 83 r83 := TyOk.mk' (by kernel_rfl) (by kernel_rfl) Try.underlying83 (by kernel_rfl) (by kernel_rfl)
-- 84: ledgers.Use
abbrev r84 : TyR := { desc := .struct [(0, 76), (16, 82)], size := 20, bytes := 40, zero := .cons (.vec 16 1 encU8 (List.replicate 16 0)) (.cons (.cons (.cons (.sc (.int .u32 0)) (.cons (.sc (.int .u64 0)) (.nil))) (.cons (.sc (.int .u32 0)) (.cons (.sc (.int .u32 0)) (.nil)))) (.nil)) }
theorem ty84 : TyOk Try.prog 84 r84 := TyOk.mk' (by kernel_rfl) (by kernel_rfl) Try.underlying84 (by kernel_rfl) (by kernel_rfl)
-- 86: func(ledgers.Ledger) (string, api.Errno)
abbrev r86 : TyR := { desc := .cell, size := 1, bytes := 8, zero := .sc .nilFunc }
theorem ty86 : TyOk Try.prog 86 r86 := TyOk.mk' (by kernel_rfl) (by kernel_rfl) Try.underlying86 (by kernel_rfl) (by kernel_rfl)
-- 87: struct ( Uses []ledgers.Use )
abbrev r87 : TyR := { desc := .struct [(0, 73)], size := 1, bytes := 24, zero := .cons (.sc (.slice none 0 0)) (.nil) }
theorem ty87 : TyOk Try.prog 87 r87 := TyOk.mk' (by kernel_rfl) (by kernel_rfl) Try.underlying87 (by kernel_rfl) (by kernel_rfl)
-- 88: ledgers.Ledger
abbrev r88 : TyR := { desc := .struct [(0, 73)], size := 1, bytes := 24, zero := .cons (.sc (.slice none 0 0)) (.nil) }
theorem ty88 : TyOk Try.prog 88 r88 := TyOk.mk' (by kernel_rfl) (by kernel_rfl) Try.underlying88 (by kernel_rfl) (by kernel_rfl)
-- 89: func([]ledgers.Use) ledgers.Ledger
abbrev r89 : TyR := { desc := .cell, size := 1, bytes := 8, zero := .sc .nilFunc }
theorem ty89 : TyOk Try.prog 89 r89 := TyOk.mk' (by kernel_rfl) (by kernel_rfl) Try.underlying89 (by kernel_rfl) (by kernel_rfl)
-- 91: func(string) (ledgers.Ledger, int, api.Errno)
abbrev r91 : TyR := { desc := .cell, size := 1, bytes := 8, zero := .sc .nilFunc }
theorem ty91 : TyOk Try.prog 91 r91 := TyOk.mk' (by kernel_rfl) (by kernel_rfl) Try.underlying91 (by kernel_rfl) (by kernel_rfl)
-- 92: func(ledgers.Ledger, []ledgers.Use) bool
abbrev r92 : TyR := { desc := .cell, size := 1, bytes := 8, zero := .sc .nilFunc }
theorem ty92 : TyOk Try.prog 92 r92 := TyOk.mk' (by kernel_rfl) (by kernel_rfl) Try.underlying92 (by kernel_rfl) (by kernel_rfl)
-- 93: func([]ledgers.Use) bool
abbrev r93 : TyR := { desc := .cell, size := 1, bytes := 8, zero := .sc .nilFunc }
theorem ty93 : TyOk Try.prog 93 r93 := TyOk.mk' (by kernel_rfl) (by kernel_rfl) Try.underlying93 (by kernel_rfl) (by kernel_rfl)
-- 94: func(string) bool
abbrev r94 : TyR := { desc := .cell, size := 1, bytes := 8, zero := .sc .nilFunc }
theorem ty94 : TyOk Try.prog 94 r94 := TyOk.mk' (by kernel_rfl) (by kernel_rfl) Try.underlying94 (by kernel_rfl) (by kernel_rfl)
-- 95: [][4]uint8
abbrev r95 : TyR := { desc := .slice 106, size := 1, bytes := 24, zero := .sc (.slice none 0 0) }
theorem ty95 : TyOk Try.prog 95 r95 := TyOk.mk' (by kernel_rfl) (by kernel_rfl) Try.underlying95 (by kernel_rfl) (by kernel_rfl)
-- 96: struct ( L [][4]uint8 )
abbrev r96 : TyR := { desc := .struct [(0, 95)], size := 1, bytes := 24, zero := .cons (.sc (.slice none 0 0)) (.nil) }
theorem ty96 : TyOk Try.prog 96 r96 := TyOk.mk' (by kernel_rfl) (by kernel_rfl) Try.underlying96 (by kernel_rfl) (by kernel_rfl)
-- 97: caissonlaw11.U
abbrev r97 : TyR := { desc := .struct [(0, 95)], size := 1, bytes := 24, zero := .cons (.sc (.slice none 0 0)) (.nil) }
theorem ty97 : TyOk Try.prog 97 r97 := TyOk.mk' (by kernel_rfl) (by kernel_rfl) Try.underlying97 (by kernel_rfl) (by kernel_rfl)
-- 98: func() []ledgers.Use
abbrev r98 : TyR := { desc := .cell, size := 1, bytes := 8, zero := .sc .nilFunc }
theorem ty98 : TyOk Try.prog 98 r98 := TyOk.mk' (by kernel_rfl) (by kernel_rfl) Try.underlying98 (by kernel_rfl) (by kernel_rfl)
-- 100: func(ledgers.Ledger, ledgers.Ledger) (ledgers.Ledger, api.Errno)
abbrev r100 : TyR := { desc := .cell, size := 1, bytes := 8, zero := .sc .nilFunc }
theorem ty100 : TyOk Try.prog 100 r100 := TyOk.mk' (by kernel_rfl) (by kernel_rfl) Try.underlying100 (by kernel_rfl) (by kernel_rfl)
-- 102: func(ledgers.Ledger) (int, int, bool)
abbrev r102 : TyR := { desc := .cell, size := 1, bytes := 8, zero := .sc .nilFunc }
theorem ty102 : TyOk Try.prog 102 r102 := TyOk.mk' (by kernel_rfl) (by kernel_rfl) Try.underlying102 (by kernel_rfl) (by kernel_rfl)
-- 103: func(ledgers.Use, ledgers.Use) bool
abbrev r103 : TyR := { desc := .cell, size := 1, bytes := 8, zero := .sc .nilFunc }
theorem ty103 : TyOk Try.prog 103 r103 := TyOk.mk' (by kernel_rfl) (by kernel_rfl) Try.underlying103 (by kernel_rfl) (by kernel_rfl)
-- 104: func(ledgers.Ledger, [16]uint8) int
abbrev r104 : TyR := { desc := .cell, size := 1, bytes := 8, zero := .sc .nilFunc }
theorem ty104 : TyOk Try.prog 104 r104 := TyOk.mk' (by kernel_rfl) (by kernel_rfl) Try.underlying104 (by kernel_rfl) (by kernel_rfl)
-- 105: func(caissonlaw11.U, caissonlaw11.U, uint8) bool
abbrev r105 : TyR := { desc := .cell, size := 1, bytes := 8, zero := .sc .nilFunc }
theorem ty105 : TyOk Try.prog 105 r105 := TyOk.mk' (by kernel_rfl) (by kernel_rfl) Try.underlying105 (by kernel_rfl) (by kernel_rfl)
-- 106: [4]uint8
abbrev r106 : TyR := { desc := .array 4 5, size := 4, bytes := 4, zero := .vec 4 1 encU8 (List.replicate 4 0) }
theorem ty106 : TyOk Try.prog 106 r106 := TyOk.mk' (by kernel_rfl) (by kernel_rfl) Try.underlying106 (by kernel_rfl) (by kernel_rfl)
-- 108: func([]ledgers.Use) (int, int)
abbrev r108 : TyR := { desc := .cell, size := 1, bytes := 8, zero := .sc .nilFunc }
theorem ty108 : TyOk Try.prog 108 r108 := TyOk.mk' (by kernel_rfl) (by kernel_rfl) Try.underlying108 (by kernel_rfl) (by kernel_rfl)
-- 109: func(ledgers.Ledger, ledgers.Use) (ledgers.Ledger, api.Errno)
abbrev r109 : TyR := { desc := .cell, size := 1, bytes := 8, zero := .sc .nilFunc }
theorem ty109 : TyOk Try.prog 109 r109 := TyOk.mk' (by kernel_rfl) (by kernel_rfl) Try.underlying109 (by kernel_rfl) (by kernel_rfl)
-- 110: func(caissonlaw11.U, [4]uint8) bool
abbrev r110 : TyR := { desc := .cell, size := 1, bytes := 8, zero := .sc .nilFunc }
theorem ty110 : TyOk Try.prog 110 r110 := TyOk.mk' (by kernel_rfl) (by kernel_rfl) Try.underlying110 (by kernel_rfl) (by kernel_rfl)
-- 111: func(ledgers.Ledger) api.Errno
abbrev r111 : TyR := { desc := .cell, size := 1, bytes := 8, zero := .sc .nilFunc }
theorem ty111 : TyOk Try.prog 111 r111 := TyOk.mk' (by kernel_rfl) (by kernel_rfl) Try.underlying111 (by kernel_rfl) (by kernel_rfl)
-- 112: func([]ledgers.Use, []ledgers.Use, ledgers.Use) bool
abbrev r112 : TyR := { desc := .cell, size := 1, bytes := 8, zero := .sc .nilFunc }
theorem ty112 : TyOk Try.prog 112 r112 := TyOk.mk' (by kernel_rfl) (by kernel_rfl) Try.underlying112 (by kernel_rfl) (by kernel_rfl)
-- 113: func(int) api.Errno
abbrev r113 : TyR := { desc := .cell, size := 1, bytes := 8, zero := .sc .nilFunc }
theorem ty113 : TyOk Try.prog 113 r113 := TyOk.mk' (by kernel_rfl) (by kernel_rfl) Try.underlying113 (by kernel_rfl) (by kernel_rfl)
-- 114: func(arrays.Array) arrays.Array
abbrev r114 : TyR := { desc := .cell, size := 1, bytes := 8, zero := .sc .nilFunc }
theorem ty114 : TyOk Try.prog 114 r114 := TyOk.mk' (by kernel_rfl) (by kernel_rfl) Try.underlying114 (by kernel_rfl) (by kernel_rfl)
-- 115: func(*arrays.Array, api.Op) arrays.Result
abbrev r115 : TyR := { desc := .cell, size := 1, bytes := 8, zero := .sc .nilFunc }
theorem ty115 : TyOk Try.prog 115 r115 := TyOk.mk' (by kernel_rfl) (by kernel_rfl) Try.underlying115 (by kernel_rfl) (by kernel_rfl)
-- 116: *arrays.Array
abbrev r116 : TyR := { desc := .cell, size := 1, bytes := 8, zero := .sc (.pointer none) }
theorem ty116 : TyOk Try.prog 116 r116 := TyOk.mk' (by kernel_rfl) (by kernel_rfl) Try.underlying116 (by kernel_rfl) (by kernel_rfl)
-- 117: func(caissonref21.A) caissonref21.A
abbrev r117 : TyR := { desc := .cell, size := 1, bytes := 8, zero := .sc .nilFunc }
theorem ty117 : TyOk Try.prog 117 r117 := TyOk.mk' (by kernel_rfl) (by kernel_rfl) Try.underlying117 (by kernel_rfl) (by kernel_rfl)
-- 118: func([]api.Block) []api.Block
abbrev r118 : TyR := { desc := .cell, size := 1, bytes := 8, zero := .sc .nilFunc }
theorem ty118 : TyOk Try.prog 118 r118 := TyOk.mk' (by kernel_rfl) (by kernel_rfl) Try.underlying118 (by kernel_rfl) (by kernel_rfl)
-- 119: [2]arrays.Array
abbrev r119 : TyR := { desc := .array 2 30, size := 4, bytes := 96, zero := .cons (.cons (.sc (.slice none 0 0)) (.cons (.sc (.slice none 0 0)) (.nil))) (.cons (.cons (.sc (.slice none 0 0)) (.cons (.sc (.slice none 0 0)) (.nil))) (.nil)) }
theorem ty119 : TyOk Try.prog 119 r119 := TyOk.mk' (by kernel_rfl) (by kernel_rfl) Try.underlying119 (by kernel_rfl) (by kernel_rfl)
-- 120: func([]int) []int
abbrev r120 : TyR := { desc := .cell, size := 1, bytes := 8, zero := .sc .nilFunc }
theorem ty120 : TyOk Try.prog 120 r120 := TyOk.mk' (by kernel_rfl) (by kernel_rfl) Try.underlying120 (by kernel_rfl) (by kernel_rfl)
-- 121: func(arrays.Array, int) api.Errno
abbrev r121 : TyR := { desc := .cell, size := 1, bytes := 8, zero := .sc .nilFunc }
theorem ty121 : TyOk Try.prog 121 r121 := TyOk.mk' (by kernel_rfl) (by kernel_rfl) Try.underlying121 (by kernel_rfl) (by kernel_rfl)
-- 122: func(string, int) string
abbrev r122 : TyR := { desc := .cell, size := 1, bytes := 8, zero := .sc .nilFunc }
theorem ty122 : TyOk Try.prog 122 r122 := TyOk.mk' (by kernel_rfl) (by kernel_rfl) Try.underlying122 (by kernel_rfl) (by kernel_rfl)
-- 123: func(api.Nonce) []uint8
abbrev r123 : TyR := { desc := .cell, size := 1, bytes := 8, zero := .sc .nilFunc }
theorem ty123 : TyOk Try.prog 123 r123 := TyOk.mk' (by kernel_rfl) (by kernel_rfl) Try.underlying123 (by kernel_rfl) (by kernel_rfl)
-- 124: func(uint32) []uint8
abbrev r124 : TyR := { desc := .cell, size := 1, bytes := 8, zero := .sc .nilFunc }
theorem ty124 : TyOk Try.prog 124 r124 := TyOk.mk' (by kernel_rfl) (by kernel_rfl) Try.underlying124 (by kernel_rfl) (by kernel_rfl)
-- 125: *strings.Builder
abbrev r125 : TyR := { desc := .cell, size := 1, bytes := 8, zero := .sc (.pointer none) }
theorem ty125 : TyOk Try.prog 125 r125 := TyOk.mk' (by kernel_rfl) (by kernel_rfl) Try.underlying125 (by kernel_rfl) (by kernel_rfl)
-- 126: struct ( addr *strings.Builder; buf []uint8 )
abbrev r126 : TyR := { desc := .struct [(0, 125), (1, 45)], size := 2, bytes := 32, zero := .cons (.sc (.pointer none)) (.cons (.sc (.slice none 0 0)) (.nil)) }
theorem ty126 : TyOk Try.prog 126 r126 := TyOk.mk' (by kernel_rfl) (by kernel_rfl) Try.underlying126 (by kernel_rfl) (by kernel_rfl)
-- 127: strings.Builder
abbrev r127 : TyR := { desc := .struct [(0, 125), (1, 45)], size := 2, bytes := 32, zero := .cons (.sc (.pointer none)) (.cons (.sc (.slice none 0 0)) (.nil)) }
theorem ty127 : TyOk Try.prog 127 r127 := TyOk.mk' (by kernel_rfl) (by kernel_rfl) Try.underlying127 (by kernel_rfl) (by kernel_rfl)
-- 128: func() []uint8
abbrev r128 : TyR := { desc := .cell, size := 1, bytes := 8, zero := .sc .nilFunc }
theorem ty128 : TyOk Try.prog 128 r128 := TyOk.mk' (by kernel_rfl) (by kernel_rfl) Try.underlying128 (by kernel_rfl) (by kernel_rfl)
-- 129: interface ( Error() string )
abbrev r129 : TyR := { desc := .cell, size := 1, bytes := 16, zero := .sc .nilIface }
theorem ty129 : TyOk Try.prog 129 r129 := TyOk.mk' (by kernel_rfl) (by kernel_rfl) Try.underlying129 (by kernel_rfl) (by kernel_rfl)
-- 130: error
abbrev r130 : TyR := { desc := .cell, size := 1, bytes := 16, zero := .sc .nilIface }
theorem ty130 : TyOk Try.prog 130 r130 := TyOk.mk' (by kernel_rfl) (by kernel_rfl) Try.underlying130 (by kernel_rfl) (by kernel_rfl)
-- 131: func(uint8) error
abbrev r131 : TyR := { desc := .cell, size := 1, bytes := 8, zero := .sc .nilFunc }
theorem ty131 : TyOk Try.prog 131 r131 := TyOk.mk' (by kernel_rfl) (by kernel_rfl) Try.underlying131 (by kernel_rfl) (by kernel_rfl)
-- 132: uint
abbrev r132 : TyR := { desc := .int .u64, size := 1, bytes := 8, zero := .sc (.int .u64 0) }
theorem ty132 : TyOk Try.prog 132 r132 := TyOk.mk' (by kernel_rfl) (by kernel_rfl) Try.underlying132 (by kernel_rfl) (by kernel_rfl)
-- 133: func() string
abbrev r133 : TyR := { desc := .cell, size := 1, bytes := 8, zero := .sc .nilFunc }
theorem ty133 : TyOk Try.prog 133 r133 := TyOk.mk' (by kernel_rfl) (by kernel_rfl) Try.underlying133 (by kernel_rfl) (by kernel_rfl)
-- 135: func(string, string) (string, string, bool)
abbrev r135 : TyR := { desc := .cell, size := 1, bytes := 8, zero := .sc .nilFunc }
theorem ty135 : TyOk Try.prog 135 r135 := TyOk.mk' (by kernel_rfl) (by kernel_rfl) Try.underlying135 (by kernel_rfl) (by kernel_rfl)
-- 137: func(string) (ledgers.Use, api.Errno)
abbrev r137 : TyR := { desc := .cell, size := 1, bytes := 8, zero := .sc .nilFunc }
theorem ty137 : TyOk Try.prog 137 r137 := TyOk.mk' (by kernel_rfl) (by kernel_rfl) Try.underlying137 (by kernel_rfl) (by kernel_rfl)
-- 138: func([]ledgers.Use) []ledgers.Use
abbrev r138 : TyR := { desc := .cell, size := 1, bytes := 8, zero := .sc .nilFunc }
theorem ty138 : TyOk Try.prog 138 r138 := TyOk.mk' (by kernel_rfl) (by kernel_rfl) Try.underlying138 (by kernel_rfl) (by kernel_rfl)
-- 139: [2]ledgers.Ledger
abbrev r139 : TyR := { desc := .array 2 88, size := 2, bytes := 48, zero := .cons (.cons (.sc (.slice none 0 0)) (.nil)) (.cons (.cons (.sc (.slice none 0 0)) (.nil)) (.nil)) }
theorem ty139 : TyOk Try.prog 139 r139 := TyOk.mk' (by kernel_rfl) (by kernel_rfl) Try.underlying139 (by kernel_rfl) (by kernel_rfl)
-- 140: func(ledgers.Ledger, []ledgers.Use) (ledgers.Ledger, api.Errno)
abbrev r140 : TyR := { desc := .cell, size := 1, bytes := 8, zero := .sc .nilFunc }
theorem ty140 : TyOk Try.prog 140 r140 := TyOk.mk' (by kernel_rfl) (by kernel_rfl) Try.underlying140 (by kernel_rfl) (by kernel_rfl)
-- 141: map[ledgers.place][]int
abbrev r141 : TyR := { desc := .cell, size := 1, bytes := 8, zero := .sc (.map none) }
theorem ty141 : TyOk Try.prog 141 r141 := TyOk.mk' (by kernel_rfl) (by kernel_rfl) Try.underlying141 (by kernel_rfl) (by kernel_rfl)
-- 142: struct ( key [16]uint8; nonce api.Nonce )
abbrev r142 : TyR := { desc := .struct [(0, 76), (16, 80)], size := 18, bytes := 32, zero := .cons (.vec 16 1 encU8 (List.replicate 16 0)) (.cons (.cons (.sc (.int .u32 0)) (.cons (.sc (.int .u64 0)) (.nil))) (.nil)) }
theorem ty142 : TyOk Try.prog 142 r142 := TyOk.mk' (by kernel_rfl) (by kernel_rfl) Try.underlying142 (by kernel_rfl) (by kernel_rfl)
-- 143: ledgers.place
abbrev r143 : TyR := { desc := .struct [(0, 76), (16, 80)], size := 18, bytes := 32, zero := .cons (.vec 16 1 encU8 (List.replicate 16 0)) (.cons (.cons (.sc (.int .u32 0)) (.cons (.sc (.int .u64 0)) (.nil))) (.nil)) }
theorem ty143 : TyOk Try.prog 143 r143 := TyOk.mk' (by kernel_rfl) (by kernel_rfl) Try.underlying143 (by kernel_rfl) (by kernel_rfl)
-- 144: func(streams.Range, streams.Range) bool
abbrev r144 : TyR := { desc := .cell, size := 1, bytes := 8, zero := .sc .nilFunc }
theorem ty144 : TyOk Try.prog 144 r144 := TyOk.mk' (by kernel_rfl) (by kernel_rfl) Try.underlying144 (by kernel_rfl) (by kernel_rfl)
-- 145: func(api.Nonce, api.Nonce, [2]uint32, [2]uint32) bool
abbrev r145 : TyR := { desc := .cell, size := 1, bytes := 8, zero := .sc .nilFunc }
theorem ty145 : TyOk Try.prog 145 r145 := TyOk.mk' (by kernel_rfl) (by kernel_rfl) Try.underlying145 (by kernel_rfl) (by kernel_rfl)
-- 146: [2]uint32
abbrev r146 : TyR := { desc := .array 2 77, size := 2, bytes := 8, zero := .cons (.sc (.int .u32 0)) (.cons (.sc (.int .u32 0)) (.nil)) }
theorem ty146 : TyOk Try.prog 146 r146 := TyOk.mk' (by kernel_rfl) (by kernel_rfl) Try.underlying146 (by kernel_rfl) (by kernel_rfl)
-- 147: func(*arrays.Array, api.Op) api.Block
abbrev r147 : TyR := { desc := .cell, size := 1, bytes := 8, zero := .sc .nilFunc }
theorem ty147 : TyOk Try.prog 147 r147 := TyOk.mk' (by kernel_rfl) (by kernel_rfl) Try.underlying147 (by kernel_rfl) (by kernel_rfl)
-- 148: struct ( do func(*arrays.Array, api.Op) api.Block )
abbrev r148 : TyR := { desc := .struct [(0, 147)], size := 1, bytes := 8, zero := .cons (.sc .nilFunc) (.nil) }
theorem ty148 : TyOk Try.prog 148 r148 := TyOk.mk' (by kernel_rfl) (by kernel_rfl) Try.underlying148 (by kernel_rfl) (by kernel_rfl)
-- 149: arrays.step
abbrev r149 : TyR := { desc := .struct [(0, 147)], size := 1, bytes := 8, zero := .cons (.sc .nilFunc) (.nil) }
theorem ty149 : TyOk Try.prog 149 r149 := TyOk.mk' (by kernel_rfl) (by kernel_rfl) Try.underlying149 (by kernel_rfl) (by kernel_rfl)
-- 150: [4]arrays.step
abbrev r150 : TyR := { desc := .array 4 149, size := 4, bytes := 32, zero := .cons (.cons (.sc .nilFunc) (.nil)) (.cons (.cons (.sc .nilFunc) (.nil)) (.cons (.cons (.sc .nilFunc) (.nil)) (.cons (.cons (.sc .nilFunc) (.nil)) (.nil)))) }
theorem ty150 : TyOk Try.prog 150 r150 := TyOk.mk' (by kernel_rfl) (by kernel_rfl) Try.underlying150 (by kernel_rfl) (by kernel_rfl)
-- 151: func() [4]arrays.step
abbrev r151 : TyR := { desc := .cell, size := 1, bytes := 8, zero := .sc .nilFunc }
theorem ty151 : TyOk Try.prog 151 r151 := TyOk.mk' (by kernel_rfl) (by kernel_rfl) Try.underlying151 (by kernel_rfl) (by kernel_rfl)
-- 153: func(uint, uint) (uint, uint)
abbrev r153 : TyR := { desc := .cell, size := 1, bytes := 8, zero := .sc .nilFunc }
theorem ty153 : TyOk Try.prog 153 r153 := TyOk.mk' (by kernel_rfl) (by kernel_rfl) Try.underlying153 (by kernel_rfl) (by kernel_rfl)
-- 154: func(string, string) bool
abbrev r154 : TyR := { desc := .cell, size := 1, bytes := 8, zero := .sc .nilFunc }
theorem ty154 : TyOk Try.prog 154 r154 := TyOk.mk' (by kernel_rfl) (by kernel_rfl) Try.underlying154 (by kernel_rfl) (by kernel_rfl)
-- 155: func(int)
abbrev r155 : TyR := { desc := .cell, size := 1, bytes := 8, zero := .sc .nilFunc }
theorem ty155 : TyOk Try.prog 155 r155 := TyOk.mk' (by kernel_rfl) (by kernel_rfl) Try.underlying155 (by kernel_rfl) (by kernel_rfl)
-- 157: func(string) (int, error)
abbrev r157 : TyR := { desc := .cell, size := 1, bytes := 8, zero := .sc .nilFunc }
theorem ty157 : TyOk Try.prog 157 r157 := TyOk.mk' (by kernel_rfl) (by kernel_rfl) Try.underlying157 (by kernel_rfl) (by kernel_rfl)
-- 158: func() int
abbrev r158 : TyR := { desc := .cell, size := 1, bytes := 8, zero := .sc .nilFunc }
theorem ty158 : TyOk Try.prog 158 r158 := TyOk.mk' (by kernel_rfl) (by kernel_rfl) Try.underlying158 (by kernel_rfl) (by kernel_rfl)
-- 159: func(uint64) []uint8
abbrev r159 : TyR := { desc := .cell, size := 1, bytes := 8, zero := .sc .nilFunc }
theorem ty159 : TyOk Try.prog 159 r159 := TyOk.mk' (by kernel_rfl) (by kernel_rfl) Try.underlying159 (by kernel_rfl) (by kernel_rfl)
-- 160: func(uint64, int) []uint8
abbrev r160 : TyR := { desc := .cell, size := 1, bytes := 8, zero := .sc .nilFunc }
theorem ty160 : TyOk Try.prog 160 r160 := TyOk.mk' (by kernel_rfl) (by kernel_rfl) Try.underlying160 (by kernel_rfl) (by kernel_rfl)
-- 161: func(...[]uint8) []uint8
abbrev r161 : TyR := { desc := .cell, size := 1, bytes := 8, zero := .sc .nilFunc }
theorem ty161 : TyOk Try.prog 161 r161 := TyOk.mk' (by kernel_rfl) (by kernel_rfl) Try.underlying161 (by kernel_rfl) (by kernel_rfl)
-- 162: *uint8
abbrev r162 : TyR := { desc := .cell, size := 1, bytes := 8, zero := .sc (.pointer none) }
theorem ty162 : TyOk Try.prog 162 r162 := TyOk.mk' (by kernel_rfl) (by kernel_rfl) Try.underlying162 (by kernel_rfl) (by kernel_rfl)
-- 163: func(string, uint8) int
abbrev r163 : TyR := { desc := .cell, size := 1, bytes := 8, zero := .sc .nilFunc }
theorem ty163 : TyOk Try.prog 163 r163 := TyOk.mk' (by kernel_rfl) (by kernel_rfl) Try.underlying163 (by kernel_rfl) (by kernel_rfl)
-- 165: func([]uint8) (api.Nonce, api.Errno)
abbrev r165 : TyR := { desc := .cell, size := 1, bytes := 8, zero := .sc .nilFunc }
theorem ty165 : TyOk Try.prog 165 r165 := TyOk.mk' (by kernel_rfl) (by kernel_rfl) Try.underlying165 (by kernel_rfl) (by kernel_rfl)
-- 167: func([]uint8) (uint32, api.Errno)
abbrev r167 : TyR := { desc := .cell, size := 1, bytes := 8, zero := .sc .nilFunc }
theorem ty167 : TyOk Try.prog 167 r167 := TyOk.mk' (by kernel_rfl) (by kernel_rfl) Try.underlying167 (by kernel_rfl) (by kernel_rfl)
-- 168: func(...[]ledgers.Use) []ledgers.Use
abbrev r168 : TyR := { desc := .cell, size := 1, bytes := 8, zero := .sc .nilFunc }
theorem ty168 : TyOk Try.prog 168 r168 := TyOk.mk' (by kernel_rfl) (by kernel_rfl) Try.underlying168 (by kernel_rfl) (by kernel_rfl)
-- 170: func(uint32, uint32) (uint32, uint32)
abbrev r170 : TyR := { desc := .cell, size := 1, bytes := 8, zero := .sc .nilFunc }
theorem ty170 : TyOk Try.prog 170 r170 := TyOk.mk' (by kernel_rfl) (by kernel_rfl) Try.underlying170 (by kernel_rfl) (by kernel_rfl)
-- 172: func(uint64, uint64) (uint64, uint64)
abbrev r172 : TyR := { desc := .cell, size := 1, bytes := 8, zero := .sc .nilFunc }
theorem ty172 : TyOk Try.prog 172 r172 := TyOk.mk' (by kernel_rfl) (by kernel_rfl) Try.underlying172 (by kernel_rfl) (by kernel_rfl)
-- 173: [][]uint8
abbrev r173 : TyR := { desc := .slice 45, size := 1, bytes := 24, zero := .sc (.slice none 0 0) }
theorem ty173 : TyOk Try.prog 173 r173 := TyOk.mk' (by kernel_rfl) (by kernel_rfl) Try.underlying173 (by kernel_rfl) (by kernel_rfl)
-- 175: func(unsafe.Pointer) unsafe.Pointer
abbrev r175 : TyR := { desc := .cell, size := 1, bytes := 8, zero := .sc .nilFunc }
theorem ty175 : TyOk Try.prog 175 r175 := TyOk.mk' (by kernel_rfl) (by kernel_rfl) Try.underlying175 (by kernel_rfl) (by kernel_rfl)
-- 176: func(string, string) int
abbrev r176 : TyR := { desc := .cell, size := 1, bytes := 8, zero := .sc .nilFunc }
theorem ty176 : TyOk Try.prog 176 r176 := TyOk.mk' (by kernel_rfl) (by kernel_rfl) Try.underlying176 (by kernel_rfl) (by kernel_rfl)
-- 178: func([]uint8) (uint64, api.Errno)
abbrev r178 : TyR := { desc := .cell, size := 1, bytes := 8, zero := .sc .nilFunc }
theorem ty178 : TyOk Try.prog 178 r178 := TyOk.mk' (by kernel_rfl) (by kernel_rfl) Try.underlying178 (by kernel_rfl) (by kernel_rfl)
-- 179: func([]uint8, int) (uint64, api.Errno)
abbrev r179 : TyR := { desc := .cell, size := 1, bytes := 8, zero := .sc .nilFunc }
theorem ty179 : TyOk Try.prog 179 r179 := TyOk.mk' (by kernel_rfl) (by kernel_rfl) Try.underlying179 (by kernel_rfl) (by kernel_rfl)
-- 180: [][]ledgers.Use
abbrev r180 : TyR := { desc := .slice 73, size := 1, bytes := 24, zero := .sc (.slice none 0 0) }
theorem ty180 : TyOk Try.prog 180 r180 := TyOk.mk' (by kernel_rfl) (by kernel_rfl) Try.underlying180 (by kernel_rfl) (by kernel_rfl)
-- 181: func([]ledgers.Use, int) []ledgers.Use
abbrev r181 : TyR := { desc := .cell, size := 1, bytes := 8, zero := .sc .nilFunc }
theorem ty181 : TyOk Try.prog 181 r181 := TyOk.mk' (by kernel_rfl) (by kernel_rfl) Try.underlying181 (by kernel_rfl) (by kernel_rfl)
-- 182: func(int) []uint8
abbrev r182 : TyR := { desc := .cell, size := 1, bytes := 8, zero := .sc .nilFunc }
theorem ty182 : TyOk Try.prog 182 r182 := TyOk.mk' (by kernel_rfl) (by kernel_rfl) Try.underlying182 (by kernel_rfl) (by kernel_rfl)
-- 183: func(int) int
abbrev r183 : TyR := { desc := .cell, size := 1, bytes := 8, zero := .sc .nilFunc }
theorem ty183 : TyOk Try.prog 183 r183 := TyOk.mk' (by kernel_rfl) (by kernel_rfl) Try.underlying183 (by kernel_rfl) (by kernel_rfl)
-- 184: func(string) (uint32, uint32)
abbrev r184 : TyR := { desc := .cell, size := 1, bytes := 8, zero := .sc .nilFunc }
theorem ty184 : TyOk Try.prog 184 r184 := TyOk.mk' (by kernel_rfl) (by kernel_rfl) Try.underlying184 (by kernel_rfl) (by kernel_rfl)
-- 187: [0]*runtime.PanicNilError
abbrev r187 : TyR := { desc := .array 0 16, size := 0, bytes := 0, zero := .nil }
theorem ty187 : TyOk Try.prog 187 r187 := TyOk.mk' (by kernel_rfl) (by kernel_rfl) Try.underlying187 (by kernel_rfl) (by kernel_rfl)
-- 192: func(unsafe.Pointer, unsafe.Pointer) bool
abbrev r192 : TyR := { desc := .cell, size := 1, bytes := 8, zero := .sc .nilFunc }
theorem ty192 : TyOk Try.prog 192 r192 := TyOk.mk' (by kernel_rfl) (by kernel_rfl) Try.underlying192 (by kernel_rfl) (by kernel_rfl)
abbrev tab : Tab := [(1, r1), (2, r2), (3, r3), (4, r4), (5, r5), (9, r9), (12, r12), (13, r13), (20, r20), (21, r21), (22, r22), (23, r23), (24, r24), (25, r25), (27, r27), (28, r28), (29, r29), (30, r30), (31, r31), (33, r33), (34, r34), (35, r35), (36, r36), (37, r37), (39, r39), (40, r40), (41, r41), (43, r43), (44, r44), (45, r45), (46, r46), (47, r47), (48, r48), (49, r49), (51, r51), (52, r52), (53, r53), (54, r54), (55, r55), (56, r56), (57, r57), (58, r58), (59, r59), (60, r60), (61, r61), (62, r62), (63, r63), (65, r65), (67, r67), (68, r68), (69, r69), (70, r70), (71, r71), (72, r72), (73, r73), (74, r74), (75, r75), (76, r76), (77, r77), (78, r78), (79, r79), (80, r80), (81, r81), (82, r82), (83, r83), (84, r84), (86, r86), (87, r87), (88, r88), (89, r89), (91, r91), (92, r92), (93, r93), (94, r94), (95, r95), (96, r96), (97, r97), (98, r98), (100, r100), (102, r102), (103, r103), (104, r104), (105, r105), (106, r106), (108, r108), (109, r109), (110, r110), (111, r111), (112, r112), (113, r113), (114, r114), (115, r115), (116, r116), (117, r117), (118, r118), (119, r119), (120, r120), (121, r121), (122, r122), (123, r123), (124, r124), (125, r125), (126, r126), (127, r127), (128, r128), (129, r129), (130, r130), (131, r131), (132, r132), (133, r133), (135, r135), (137, r137), (138, r138), (139, r139), (140, r140), (141, r141), (142, r142), (143, r143), (144, r144), (145, r145), (146, r146), (147, r147), (148, r148), (149, r149), (150, r150), (151, r151), (153, r153), (154, r154), (155, r155), (157, r157), (158, r158), (159, r159), (160, r160), (161, r161), (162, r162), (163, r163), (165, r165), (167, r167), (168, r168), (170, r170), (172, r172), (173, r173), (175, r175), (176, r176), (178, r178), (179, r179), (180, r180), (181, r181), (182, r182), (183, r183), (184, r184), (187, r187), (192, r192)]
theorem tab_ok : TabOk Try.prog tab :=
  (TabOk.cons ty1 (TabOk.cons ty2 (TabOk.cons ty3 (TabOk.cons ty4 (TabOk.cons ty5 (TabOk.cons ty9 (TabOk.cons ty12 (TabOk.cons ty13 (TabOk.cons ty20 (TabOk.cons ty21 (TabOk.cons ty22 (TabOk.cons ty23 (TabOk.cons ty24 (TabOk.cons ty25 (TabOk.cons ty27 (TabOk.cons ty28 (TabOk.cons ty29 (TabOk.cons ty30 (TabOk.cons ty31 (TabOk.cons ty33 (TabOk.cons ty34 (TabOk.cons ty35 (TabOk.cons ty36 (TabOk.cons ty37 (TabOk.cons ty39 (TabOk.cons ty40 (TabOk.cons ty41 (TabOk.cons ty43 (TabOk.cons ty44 (TabOk.cons ty45 (TabOk.cons ty46 (TabOk.cons ty47 (TabOk.cons ty48 (TabOk.cons ty49 (TabOk.cons ty51 (TabOk.cons ty52 (TabOk.cons ty53 (TabOk.cons ty54 (TabOk.cons ty55 (TabOk.cons ty56 (TabOk.cons ty57 (TabOk.cons ty58 (TabOk.cons ty59 (TabOk.cons ty60 (TabOk.cons ty61 (TabOk.cons ty62 (TabOk.cons ty63 (TabOk.cons ty65 (TabOk.cons ty67 (TabOk.cons ty68 (TabOk.cons ty69 (TabOk.cons ty70 (TabOk.cons ty71 (TabOk.cons ty72 (TabOk.cons ty73 (TabOk.cons ty74 (TabOk.cons ty75 (TabOk.cons ty76 (TabOk.cons ty77 (TabOk.cons ty78 (TabOk.cons ty79 (TabOk.cons ty80 (TabOk.cons ty81 (TabOk.cons ty82 (TabOk.cons ty83 (TabOk.cons ty84 (TabOk.cons ty86 (TabOk.cons ty87 (TabOk.cons ty88 (TabOk.cons ty89 (TabOk.cons ty91 (TabOk.cons ty92 (TabOk.cons ty93 (TabOk.cons ty94 (TabOk.cons ty95 (TabOk.cons ty96 (TabOk.cons ty97 (TabOk.cons ty98 (TabOk.cons ty100 (TabOk.cons ty102 (TabOk.cons ty103 (TabOk.cons ty104 (TabOk.cons ty105 (TabOk.cons ty106 (TabOk.cons ty108 (TabOk.cons ty109 (TabOk.cons ty110 (TabOk.cons ty111 (TabOk.cons ty112 (TabOk.cons ty113 (TabOk.cons ty114 (TabOk.cons ty115 (TabOk.cons ty116 (TabOk.cons ty117 (TabOk.cons ty118 (TabOk.cons ty119 (TabOk.cons ty120 (TabOk.cons ty121 (TabOk.cons ty122 (TabOk.cons ty123 (TabOk.cons ty124 (TabOk.cons ty125 (TabOk.cons ty126 (TabOk.cons ty127 (TabOk.cons ty128 (TabOk.cons ty129 (TabOk.cons ty130 (TabOk.cons ty131 (TabOk.cons ty132 (TabOk.cons ty133 (TabOk.cons ty135 (TabOk.cons ty137 (TabOk.cons ty138 (TabOk.cons ty139 (TabOk.cons ty140 (TabOk.cons ty141 (TabOk.cons ty142 (TabOk.cons ty143 (TabOk.cons ty144 (TabOk.cons ty145 (TabOk.cons ty146 (TabOk.cons ty147 (TabOk.cons ty148 (TabOk.cons ty149 (TabOk.cons ty150 (TabOk.cons ty151 (TabOk.cons ty153 (TabOk.cons ty154 (TabOk.cons ty155 (TabOk.cons ty157 (TabOk.cons ty158 (TabOk.cons ty159 (TabOk.cons ty160 (TabOk.cons ty161 (TabOk.cons ty162 (TabOk.cons ty163 (TabOk.cons ty165 (TabOk.cons ty167 (TabOk.cons ty168 (TabOk.cons ty170 (TabOk.cons ty172 (TabOk.cons ty173 (TabOk.cons ty175 (TabOk.cons ty176 (TabOk.cons ty178 (TabOk.cons ty179 (TabOk.cons ty180 (TabOk.cons ty181 (TabOk.cons ty182 (TabOk.cons ty183 (TabOk.cons ty184 (TabOk.cons ty187 (TabOk.cons ty192 TabOk.nil)))))))))))))))))))))))))))))))))))))))))))))))))))))))))))))))))))))))))))))))))))))))))))))))))))))))))))))))))))))))))))))))))))))))))))))))))))))))))
end Go.Proofs.Ytjpjchohpjbknaa

/- Arrays of blocks as data. -/
namespace Go.Proofs.Ytjpjchohpjbknaa
open Go.Eng
abbrev bo (b : Bool) : D := .sc (.bool b)
abbrev i6 (n : Int) : D := .sc (.int .i64 n)
abbrev u8s (n : Int) : D := .sc (.int .u8 n)
def encBlock (l : List Int) : D := .vec 32 1 encU8 l
/-- An operation. -/
structure Oper where
  kind : Int
  index : Int
  data : List Int
  deriving DecidableEq
def encOp (o : Oper) : D := .cons (u8s o.kind) (.cons (i6 o.index) (.cons (.arr 1 encU8 o.data) .nil))
/-- A result of an operation. -/
structure Res where
  value : List Int
  err : Int
  deriving DecidableEq
def encRes (r : Res) : D := .cons (encBlock r.value) (.cons (i6 r.err) .nil)
abbrev encA (a b : List (List Int)) : D := .cons (.arr 32 encBlock a) (.cons (.arr 32 encBlock b) .nil)
/-- An array whose blocks lie in owned rows. -/
abbrev ownA (r1 n1 : Nat) (c1 : Option Nat) (r2 n2 : Nat) (c2 : Option Nat) : AV := .acons (.own r1 0 n1 32 c1) (.acons (.own r2 0 n2 32 c2) (.d .nil))
abbrev rowB (ex : Bool) (l : List (List Int)) : Row := .ds 41 32 ex encBlock l
abbrev zeroA : D := .cons (.sc (.slice none 0 0)) (.cons (.sc (.slice none 0 0)) .nil)
def zeroBlock : List Int := [0, 0, 0, 0, 0, 0, 0, 0, 0, 0, 0, 0, 0, 0, 0, 0, 0, 0, 0, 0, 0, 0, 0, 0, 0, 0, 0, 0, 0, 0, 0, 0]
theorem block_eq (a b : List Int) : EqOk Try.prog 2 41 (encBlock a) (encBlock b) (decide (a = b)) :=
  eq_vec tab_ok (P := Try.prog) Try.underlying41 rfl (fun _ => rfl) rfl (fun _ _ => eq_int (P := Try.prog) Try.underlying5)
theorem res_eq (a b : Res) : EqOk Try.prog 3 49 (encRes a) (encRes b) (decide (a = b)) := by
  refine (eq_struct (P := Try.prog) Try.underlying49 (by kernel_rfl) rfl rfl (eqf_cons tab_ok rfl (by kernel_rfl) rfl rfl (block_eq _ _) rfl (eqf_cons tab_ok rfl (by kernel_rfl) rfl rfl ((eq_int (P := Try.prog) Try.underlying31).up (by decide)) rfl eqf_nil))).cast ?_
  cases a; cases b
  simp
theorem opens_block : Opens Try.prog 41 32 encBlock fun l => l.length = 32 ∧ ∀ a ∈ l, (Lit.int .u8 a).wf = true :=
  opens_array (P := Try.prog) (n := 32) Try.underlying41 (by kernel_rfl) (by kernel_rfl) (opens_int (P := Try.prog) Try.underlying5)
/-- An array, lent. -/
theorem arg_A {look : Nat → Option Row} {ρ : Nat → Option Nat} {r1 n1 r2 n2 : Nat} {c1 c2 : Option Nat} {t1 t2 : TypeId} {e1 e2 : Bool} {a b : List (List Int)} {bs avs : List AV} (h1 : look r1 = some (.ds t1 32 e1 encBlock a)) (h2 : look r2 = some (.ds t2 32 e2 encBlock b)) (l1 : n1 = a.length) (l2 : n2 = b.length) (ht : ArgsA look ρ bs avs) :
    ArgsA look ρ (ownA r1 n1 c1 r2 n2 c2 :: bs) (.d (encA a b) :: avs) := by
  subst l1 l2
  exact ⟨_, avs, rfl, ⟨rfl, rfl⟩, ⟨rfl, _, _, rfl, by simp only [ArgD, h1]; exact ⟨trivial, by simp, a, by simp, .refl _⟩, ⟨_, _, rfl, by simp only [ArgD, h2]; exact ⟨trivial, by simp, b, by simp, .refl _⟩, DLe.refl _⟩⟩, ht⟩
end Go.Proofs.Ytjpjchohpjbknaa

/- Arrays: shapes.Check, Clone, Clip, copied, value, Check. -/
namespace Go.Proofs.Ytjpjchohpjbknaa
open Go.Eng
set_option maxHeartbeats 2000000
attribute [local irreducible] WC RegS RegD SeqQ BlkQ ScoQ RegK CutK Sat SatN FnIs LoopQ StepIs OpIs
abbrev badN (n : Int) : Bool := decide (n < 1) || decide (n > 4096)
theorem shape_is (n : Int) : FnIs Try.prog 52 [.d (i6 n)] [] (.int .i64 (if badN n = true then 1 else 0)) [] := by
  refine fnIs_of tab_ok Try.func52 rfl rfl rfl ?_
  refine wc_seq ?_
  refine wc_region ?_
  refine reg_quiet rfl (step_C tab_ok (fun K hk => hk)) ?_
  refine reg_nil ?_
  refine seq_n ?_
  refine wc_seq ?_
  refine wc_seq_cut 8 (.bool (decide (n < 1) || decide (n > 4096))) _ rfl ?_ ?_
  · refine reg_quiet rfl (step_C tab_ok (fun K hk => hk)) ?_
    refine reg_quiet rfl (step_C tab_ok (fun K hk => hk)) ?_
    refine reg_quiet rfl (step_C tab_ok (fun K hk => hk)) ?_
    refine reg_split rfl rfl rfl (fun hb => ?_) (fun hb => ?_)
    refine reg_on rfl rfl (by assumption) ?_
    refine reg_quiet rfl (step_C tab_ok (fun K hk => hk)) ?_
    refine reg_on rfl rfl (by assumption) ?_
    refine reg_quiet rfl (step_C tab_ok (fun K hk => hk)) ?_
    refine reg_quiet rfl (pick_F tab_ok rfl (by assumption) rfl) ?_
    rotate_left
    refine reg_skip rfl rfl (by assumption) rfl rfl ?_
    refine reg_skip rfl rfl (by assumption) rfl rfl ?_
    refine reg_quiet rfl (pick_T tab_ok rfl (by assumption) rfl) ?_
    rotate_left
    all_goals refine reg_cut 6 rfl rfl rfl rfl rfl rfl rfl rfl rfl (AVLe.of_eq ?_)
    all_goals (first | rfl | (clear q5; simp_all; done) | (simp_all; done) | (simp_all; omega))
  refine wc_cond rfl (fun hb => ?_) (fun hb => ?_)
  · refine wc_seq ?_
    refine wc_region ?_
    refine reg_quiet rfl (step_C tab_ok (fun K hk => hk)) ?_
    refine reg_nil ?_
    refine seq_n ?_
    refine wc_ret ?_
    refine seq_r ?_
    exact ⟨trivial, [], .of rfl rfl rfl rfl rfl ⟨⟨_, rfl, AVLe.of_eq (by rw [if_pos (show badN n = true from hb)]; rfl)⟩, rfl, trivial⟩ trivial⟩
  · refine wc_skip ?_
    refine seq_n ?_
    refine wc_seq ?_
    refine wc_region ?_
    refine reg_quiet rfl (step_C tab_ok (fun K hk => hk)) ?_
    refine reg_nil ?_
    refine seq_n ?_
    refine wc_ret ?_
    exact ⟨trivial, [], .of rfl rfl rfl rfl rfl ⟨⟨_, rfl, AVLe.of_eq (by rw [show badN n = false from hb]; rfl)⟩, rfl, trivial⟩ trivial⟩
theorem clone_is (l : List (List Int)) (hp : 0 < l.length) (hlen : l.length ≤ 1048576) : FnIs Try.prog 75 [.d (.arr 32 encBlock l)] [] (.own 64 0 l.length 32 none) [(64, rowB false l)] := by
  refine fnIs_of tab_ok Try.func75 rfl rfl rfl ?_
  refine wc_seq ?_
  refine wc_region ?_
  refine reg_quiet rfl (step_C tab_ok (fun K hk => hk)) ?_
  refine reg_nil ?_
  refine seq_n ?_
  refine wc_seq ?_
  refine wc_seq ?_
  refine wc_region ?_
  refine reg_quiet rfl (step_C tab_ok (fun K hk => hk)) ?_
  refine reg_quiet rfl (eql_nil tab_ok rfl rfl rfl hp) ?_
  refine reg_nil ?_
  refine seq_n ?_
  refine wc_false rfl rfl ?_
  refine wc_skip ?_
  refine seq_n ?_
  refine wc_seq ?_
  refine wc_region ?_
  refine reg_quiet rfl (build_empty tab_ok rfl rfl) ?_
  refine reg_quiet rfl (step_C tab_ok (fun K hk => hk)) ?_
  refine reg_new (append_empty_arr (s := 32) (enc := encBlock) (ys := l) tab_ok rfl rfl rfl rfl rfl (.inl rfl) rfl hp hlen rfl) rfl ?_
  refine reg_quiet rfl (step_C tab_ok (fun K hk => hk)) ?_
  refine reg_nil ?_
  refine seq_n ?_
  refine wc_ret ?_
  exact ⟨trivial, [(64, some 104)], .of rfl rfl rfl rfl rfl ⟨⟨_, rfl, AVLe.of_eq rfl⟩, rfl, trivial⟩ ⟨⟨rfl, rfl, _, rfl, .refl _⟩, trivial⟩⟩
theorem clip_is (l : List (List Int)) (n : Nat) (ex : Bool) : FnIs Try.prog 74 [.own 0 0 n 32 none] [(0, rowB ex l)] (.own 0 0 n 32 (some n)) [(0, rowB ex l)] := by
  refine fnIs_of tab_ok Try.func74 rfl rfl rfl ?_
  refine wc_seq ?_
  refine wc_region ?_
  refine reg_quiet rfl (step_C tab_ok (fun K hk => hk)) ?_
  refine reg_nil ?_
  refine seq_n ?_
  refine wc_seq ?_
  refine wc_region ?_
  refine reg_quiet rfl (step_C tab_ok (fun K hk => hk)) ?_
  refine reg_quiet rfl (step_C tab_ok (fun K hk => hk)) ?_
  refine reg_quiet rfl (len_own tab_ok rfl rfl) ?_
  refine reg_quiet rfl (step_C tab_ok (fun K hk => hk)) ?_
  refine reg_quiet rfl (len_own tab_ok rfl rfl) ?_
  refine reg_quiet rfl (slice_clip tab_ok rfl rfl rfl rfl rfl) ?_
  refine reg_quiet rfl (step_C tab_ok (fun K hk => hk)) ?_
  refine reg_nil ?_
  refine seq_n ?_
  refine wc_ret ?_
  exact ⟨trivial, [], .of rfl rfl rfl rfl rfl ⟨⟨_, rfl, AVLe.of_eq rfl⟩, rfl, trivial⟩ ⟨⟨rfl, rfl, _, rfl, .refl _⟩, trivial⟩⟩
/-- An owned slice handed over. -/
theorem arg_give {look : Nat → Option Row} {ρ : Nat → Option Nat} {r k off len s : Nat} {cap : Option Nat} {bs avs : List AV} (hr : ρ r = some k) (h64 : Nat.blt r 64 = true) (ht : ArgsA look ρ bs avs) :
    ArgsA look ρ (.own k off len s cap :: bs) (.own r off len s cap :: avs) :=
  ⟨_, avs, rfl, ⟨rfl, by simp [AV.lt, h64]⟩, AVLe.of_eq (by simp only [AV.ren, hr]), ht⟩
theorem copied_is (l : List (List Int)) (hp : 0 < l.length) (hlen : l.length ≤ 1048576) : FnIs Try.prog 57 [.d (.arr 32 encBlock l)] [] (.own 64 0 l.length 32 (some l.length)) [(64, rowB false l)] := by
  refine fnIs_of tab_ok Try.func57 rfl rfl rfl ?_
  refine wc_seq ?_
  refine wc_region ?_
  refine reg_quiet rfl (step_C tab_ok (fun K hk => hk)) ?_
  refine reg_nil ?_
  refine seq_n ?_
  refine wc_seq ?_
  refine wc_region ?_
  refine reg_quiet rfl (step_C tab_ok (fun K hk => hk)) ?_
  refine reg_new (call_new (clone_is l hp hlen) rfl rfl (arg_e arg_nil) (.inl rfl) rfl rfl) rfl ?_
  refine reg_new2 (call_h [(0, some 80)] (clip_is l l.length false) rfl rfl rfl (arg_give rfl rfl arg_nil) ⟨⟨rfl, rfl, _, _, rfl, rfl, .refl _⟩, trivial⟩ rfl rfl (.inl rfl) rfl rfl) rfl ?_
  refine reg_quiet rfl (step_C tab_ok (fun K hk => hk)) ?_
  refine reg_nil ?_
  refine seq_n ?_
  refine wc_ret ?_
  exact ⟨trivial, [(64, some 80)], .of rfl rfl rfl rfl rfl ⟨⟨_, rfl, AVLe.of_eq rfl⟩, rfl, trivial⟩ ⟨⟨rfl, rfl, _, rfl, .refl _⟩, trivial⟩⟩
end Go.Proofs.Ytjpjchohpjbknaa

/- Arrays: value, Check, New, and the definition's New and Copy. -/
namespace Go.Proofs.Ytjpjchohpjbknaa
open Go.Eng
set_option maxHeartbeats 2000000
attribute [local irreducible] WC RegS RegD SeqQ BlkQ ScoQ RegK CutK Sat SatN FnIs LoopQ StepIs OpIs
theorem value_is (a b : List (List Int)) (ha : 0 < a.length) (hla : a.length ≤ 1048576) (hb : 0 < b.length) (hlb : b.length ≤ 1048576) : FnIs Try.prog 53 [.d (encA a b)] [] (ownA 64 a.length (some a.length) 65 b.length (some b.length)) [(64, rowB false a), (65, rowB false b)] := by
  refine fnIs_of tab_ok Try.func53 rfl rfl rfl ?_
  refine wc_seq ?_
  refine wc_region ?_
  refine reg_new (step_C tab_ok (fun K hk => hk)) rfl ?_
  refine reg_new (step_C tab_ok (fun K hk => hk)) rfl ?_
  refine reg_nil ?_
  refine seq_n ?_
  refine wc_seq ?_
  refine wc_draw (by kernel_rfl) ?_
  refine dreg_q [1] [64] rfl (step_C tab_ok (fun K hk => hk)) ?_
  refine dreg_q [3] [64] rfl (load_box tab_ok rfl rfl ⟨_, rfl, rfl⟩ rfl) ?_
  refine dreg_w [4] [] rfl (call_new (copied_is a ha hla) rfl rfl (arg_e arg_nil) (.inl rfl) rfl rfl) ?_
  refine dreg_q [1] [64] rfl (step_C tab_ok (fun K hk => hk)) ?_
  refine dreg_q [6] [64] rfl (load_box tab_ok rfl rfl ⟨_, rfl, rfl⟩ rfl) ?_
  refine dreg_w [7] [] rfl (call_new (copied_is b hb hlb) rfl rfl (arg_e arg_nil) (.inl rfl) rfl rfl) ?_
  refine dreg_q [5, 8] [96, 120] rfl (build_struct tab_ok rfl rfl rfl rfl) ?_
  refine dreg_s [2, 9] [72, 96, 120] (store_row tab_ok rfl rfl rfl ⟨_, ⟨rfl, rfl, rfl⟩, rfl⟩ rfl) ?_
  refine dreg_end (by kernel_rfl) ?_
  refine seq_n ?_
  refine wc_ret ?_
  exact ⟨trivial, _, rfl, [(64, some 96), (65, some 120)], .of rfl rfl rfl rfl rfl ⟨⟨_, rfl, AVLe.of_eq rfl⟩, rfl, trivial⟩ ⟨⟨rfl, rfl, _, rfl, .refl _⟩, ⟨rfl, rfl, _, rfl, .refl _⟩, trivial⟩⟩
def okA (a b : List (List Int)) : Bool := !badN a.length && decide ((a.length : Int) = b.length)
theorem check_is (a b : List (List Int)) : FnIs Try.prog 22 [.d (encA a b)] [] (.int .i64 (if okA a b = true then 0 else 1)) [] := by
  have hS := shape_is a.length
  cases hn : badN (a.length : Int) with
  | true =>
    rw [if_pos hn] at hS
    have hO : okA a b = false := by rw [okA, hn]; rfl
    rw [hO]
    refine fnIs_of tab_ok Try.func22 rfl rfl rfl ?_
    refine wc_seq ?_
    refine wc_region ?_
    refine reg_new (step_C tab_ok (fun K hk => hk)) rfl ?_
    refine reg_quiet rfl (step_C tab_ok (fun K hk => hk)) ?_
    refine reg_nil ?_
    refine seq_n ?_
    refine wc_seq ?_
    refine wc_seq ?_
    refine wc_region ?_
    refine reg_quiet rfl (step_C tab_ok (fun K hk => hk)) ?_
    refine reg_quiet rfl (load_box tab_ok rfl rfl ⟨_, rfl, rfl⟩ rfl) ?_
    refine reg_quiet rfl (len_arr tab_ok rfl rfl) ?_
    refine reg_quiet rfl (call_r hS rfl rfl (arg_e arg_nil) (.inl rfl) (fun _ => rfl)) ?_
    refine reg_quiet rfl (step_C tab_ok (fun K hk => hk)) ?_
    refine reg_quiet rfl (step_C tab_ok (fun K hk => hk)) ?_
    refine reg_skip rfl rfl rfl rfl rfl ?_
    refine reg_skip rfl rfl rfl rfl rfl ?_
    refine reg_skip rfl rfl rfl rfl rfl ?_
    refine reg_skip rfl rfl rfl rfl rfl ?_
    refine reg_skip rfl rfl rfl rfl rfl ?_
    refine reg_skip rfl rfl rfl rfl rfl ?_
    refine reg_skip rfl rfl rfl rfl rfl ?_
    refine reg_quiet rfl (pick_T tab_ok rfl rfl rfl) ?_
    refine reg_nil ?_
    refine seq_n ?_
    refine wc_true rfl rfl ?_
    refine wc_seq ?_
    refine wc_region ?_
    refine reg_quiet rfl (step_C tab_ok (fun K hk => hk)) ?_
    refine reg_nil ?_
    refine seq_n ?_
    refine wc_ret ?_
    refine seq_r ?_
    exact ⟨trivial, [], .of rfl rfl rfl rfl rfl ⟨⟨_, rfl, AVLe.of_eq rfl⟩, rfl, trivial⟩ trivial⟩
  | false =>
    rw [if_neg (by rw [hn]; exact fun e => by cases e)] at hS
    cases he : decide ((a.length : Int) = b.length) with
    | true =>
      have hO : okA a b = true := by rw [okA, hn, he]; rfl
      have he' : (!decide ((a.length : Int) = b.length)) = false := by rw [he]; rfl
      rw [hO]
      refine fnIs_of tab_ok Try.func22 rfl rfl rfl ?_
      refine wc_seq ?_
      refine wc_region ?_
      refine reg_new (step_C tab_ok (fun K hk => hk)) rfl ?_
      refine reg_quiet rfl (step_C tab_ok (fun K hk => hk)) ?_
      refine reg_nil ?_
      refine seq_n ?_
      refine wc_seq ?_
      refine wc_seq ?_
      refine wc_region ?_
      refine reg_quiet rfl (step_C tab_ok (fun K hk => hk)) ?_
      refine reg_quiet rfl (load_box tab_ok rfl rfl ⟨_, rfl, rfl⟩ rfl) ?_
      refine reg_quiet rfl (len_arr tab_ok rfl rfl) ?_
      refine reg_quiet rfl (call_r hS rfl rfl (arg_e arg_nil) (.inl rfl) (fun _ => rfl)) ?_
      refine reg_quiet rfl (step_C tab_ok (fun K hk => hk)) ?_
      refine reg_quiet rfl (step_C tab_ok (fun K hk => hk)) ?_
      refine reg_on rfl rfl rfl ?_
      refine reg_quiet rfl (step_C tab_ok (fun K hk => hk)) ?_
      refine reg_on rfl rfl rfl ?_
      refine reg_quiet rfl (load_box tab_ok rfl rfl ⟨_, rfl, rfl⟩ rfl) ?_
      refine reg_on rfl rfl rfl ?_
      refine reg_quiet rfl (len_arr tab_ok rfl rfl) ?_
      refine reg_on rfl rfl rfl ?_
      refine reg_quiet rfl (step_C tab_ok (fun K hk => hk)) ?_
      refine reg_on rfl rfl rfl ?_
      refine reg_quiet rfl (load_box tab_ok rfl rfl ⟨_, rfl, rfl⟩ rfl) ?_
      refine reg_on rfl rfl rfl ?_
      refine reg_quiet rfl (len_arr tab_ok rfl rfl) ?_
      refine reg_on rfl rfl rfl ?_
      refine reg_quiet rfl (step_C tab_ok (fun K hk => hk)) ?_
      refine reg_quiet rfl (pick_F tab_ok rfl rfl rfl) ?_
      refine reg_nil ?_
      refine seq_n ?_
      refine wc_false rfl (by assumption) ?_
      refine wc_skip ?_
      refine seq_n ?_
      refine wc_seq ?_
      refine wc_region ?_
      refine reg_quiet rfl (step_C tab_ok (fun K hk => hk)) ?_
      refine reg_nil ?_
      refine seq_n ?_
      refine wc_ret ?_
      exact ⟨trivial, [], .of rfl rfl rfl rfl rfl ⟨⟨_, rfl, AVLe.of_eq rfl⟩, rfl, trivial⟩ trivial⟩
    | false =>
      have hO : okA a b = false := by rw [okA, hn, he]; rfl
      have he' : (!decide ((a.length : Int) = b.length)) = true := by rw [he]; rfl
      rw [hO]
      refine fnIs_of tab_ok Try.func22 rfl rfl rfl ?_
      refine wc_seq ?_
      refine wc_region ?_
      refine reg_new (step_C tab_ok (fun K hk => hk)) rfl ?_
      refine reg_quiet rfl (step_C tab_ok (fun K hk => hk)) ?_
      refine reg_nil ?_
      refine seq_n ?_
      refine wc_seq ?_
      refine wc_seq ?_
      refine wc_region ?_
      refine reg_quiet rfl (step_C tab_ok (fun K hk => hk)) ?_
      refine reg_quiet rfl (load_box tab_ok rfl rfl ⟨_, rfl, rfl⟩ rfl) ?_
      refine reg_quiet rfl (len_arr tab_ok rfl rfl) ?_
      refine reg_quiet rfl (call_r hS rfl rfl (arg_e arg_nil) (.inl rfl) (fun _ => rfl)) ?_
      refine reg_quiet rfl (step_C tab_ok (fun K hk => hk)) ?_
      refine reg_quiet rfl (step_C tab_ok (fun K hk => hk)) ?_
      refine reg_on rfl rfl rfl ?_
      refine reg_quiet rfl (step_C tab_ok (fun K hk => hk)) ?_
      refine reg_on rfl rfl rfl ?_
      refine reg_quiet rfl (load_box tab_ok rfl rfl ⟨_, rfl, rfl⟩ rfl) ?_
      refine reg_on rfl rfl rfl ?_
      refine reg_quiet rfl (len_arr tab_ok rfl rfl) ?_
      refine reg_on rfl rfl rfl ?_
      refine reg_quiet rfl (step_C tab_ok (fun K hk => hk)) ?_
      refine reg_on rfl rfl rfl ?_
      refine reg_quiet rfl (load_box tab_ok rfl rfl ⟨_, rfl, rfl⟩ rfl) ?_
      refine reg_on rfl rfl rfl ?_
      refine reg_quiet rfl (len_arr tab_ok rfl rfl) ?_
      refine reg_on rfl rfl rfl ?_
      refine reg_quiet rfl (step_C tab_ok (fun K hk => hk)) ?_
      refine reg_quiet rfl (pick_F tab_ok rfl rfl rfl) ?_
      refine reg_nil ?_
      refine seq_n ?_
      refine wc_true rfl (by assumption) ?_
      refine wc_seq ?_
      refine wc_region ?_
      refine reg_quiet rfl (step_C tab_ok (fun K hk => hk)) ?_
      refine reg_nil ?_
      refine seq_n ?_
      refine wc_ret ?_
      refine seq_r ?_
      exact ⟨trivial, [], .of rfl rfl rfl rfl rfl ⟨⟨_, rfl, AVLe.of_eq rfl⟩, rfl, trivial⟩ trivial⟩
theorem new_bad (n : Int) (hn : badN n = true) : FnIs Try.prog 15 [.d (i6 n)] [] (.tup (.acons (.d zeroA) (.acons (.int .i64 1) .anil))) [] := by
  have hS := shape_is n
  rw [if_pos hn] at hS
  refine fnIs_of tab_ok Try.func15 rfl rfl rfl ?_
  refine wc_seq ?_
  refine wc_region ?_
  refine reg_new (step_C tab_ok (fun K hk => hk)) rfl ?_
  refine reg_quiet rfl (step_C tab_ok (fun K hk => hk)) ?_
  refine reg_nil ?_
  refine seq_n ?_
  refine wc_seq ?_
  refine wc_seq ?_
  refine wc_region ?_
  refine reg_quiet rfl (step_C tab_ok (fun K hk => hk)) ?_
  refine reg_quiet rfl (call_r hS rfl rfl (arg_e arg_nil) (.inl rfl) (fun _ => rfl)) ?_
  refine reg_quiet rfl (step_C tab_ok (fun K hk => hk)) ?_
  refine reg_nil ?_
  refine seq_n ?_
  refine wc_seq ?_
  refine wc_region ?_
  refine reg_quiet rfl (step_C tab_ok (fun K hk => hk)) ?_
  refine reg_quiet rfl (step_C tab_ok (fun K hk => hk)) ?_
  refine reg_nil ?_
  refine seq_n ?_
  refine wc_true rfl rfl ?_
  refine wc_seq ?_
  refine wc_region ?_
  refine reg_quiet rfl (build_struct tab_ok rfl rfl rfl rfl) ?_
  refine reg_quiet rfl (step_C tab_ok (fun K hk => hk)) ?_
  refine reg_store (store_row tab_ok rfl rfl rfl ⟨_, ⟨rfl, rfl, rfl⟩, rfl⟩ rfl) ?_
  refine reg_quiet rfl (step_C tab_ok (fun K hk => hk)) ?_
  refine reg_nil ?_
  refine seq_n ?_
  refine wc_ret ?_
  refine seq_r ?_
  exact ⟨trivial, _, rfl, [], .of rfl rfl rfl rfl rfl ⟨⟨_, rfl, AVLe.of_eq rfl⟩, rfl, trivial⟩ trivial⟩
abbrev zeros (N : Nat) : List (List Int) := List.replicate N zeroBlock
theorem new_ok (N : Nat) (hn : badN (N : Int) = false) : FnIs Try.prog 15 [.d (i6 N)] [] (.tup (.acons (ownA 64 N none 65 N none) (.acons (.int .i64 0) .anil))) [(64, rowB true (zeros N)), (65, rowB true (zeros N))] := by
  obtain ⟨n, hN⟩ : ∃ n : Int, (N : Int) = n := ⟨_, rfl⟩
  have hS := shape_is n
  rw [hN] at hn
  rw [if_neg (by rw [hn]; exact fun e => by cases e)] at hS
  have hlen2 : N ≤ 1048576 := by rw [Bool.or_eq_false_iff] at hn; have := of_decide_eq_false hn.2; omega
  rw [show i6 (N : Int) = i6 n by rw [hN]]
  refine fnIs_of tab_ok Try.func15 rfl rfl rfl ?_
  refine wc_seq ?_
  refine wc_region ?_
  refine reg_new (step_C tab_ok (fun K hk => hk)) rfl ?_
  refine reg_quiet rfl (step_C tab_ok (fun K hk => hk)) ?_
  refine reg_nil ?_
  refine seq_n ?_
  refine wc_seq ?_
  refine wc_seq ?_
  refine wc_region ?_
  refine reg_quiet rfl (step_C tab_ok (fun K hk => hk)) ?_
  refine reg_quiet rfl (call_r hS rfl rfl (arg_e arg_nil) (.inl rfl) (fun _ => rfl)) ?_
  refine reg_quiet rfl (step_C tab_ok (fun K hk => hk)) ?_
  refine reg_nil ?_
  refine seq_n ?_
  refine wc_seq ?_
  refine wc_region ?_
  refine reg_quiet rfl (step_C tab_ok (fun K hk => hk)) ?_
  refine reg_quiet rfl (step_C tab_ok (fun K hk => hk)) ?_
  refine reg_nil ?_
  refine seq_n ?_
  refine wc_false rfl rfl ?_
  refine wc_skip ?_
  refine seq_n ?_
  refine wc_seq ?_
  refine wc_draw (by kernel_rfl) ?_
  refine dreg_q [0] [] rfl (step_C tab_ok (fun K hk => hk)) ?_
  refine dreg_w [11] [] rfl (make_full (enc := encBlock) (s := 32) (N := N) tab_ok zeroBlock rfl rfl rfl rfl rfl (by rw [hN]; rfl) (by rw [hN]; rfl) hlen2 rfl) ?_
  refine dreg_q [0] [] rfl (step_C tab_ok (fun K hk => hk)) ?_
  refine dreg_w [13] [] rfl (make_full (enc := encBlock) (s := 32) (N := N) tab_ok zeroBlock rfl rfl rfl rfl rfl (by rw [hN]; rfl) (by rw [hN]; rfl) hlen2 rfl) ?_
  refine dreg_q [12, 14] [128, 144] rfl (build_struct tab_ok rfl rfl rfl rfl) ?_
  refine dreg_s [2, 15] [64, 128, 144] (store_row tab_ok rfl rfl rfl ⟨_, ⟨rfl, rfl, rfl⟩, rfl⟩ rfl) ?_
  refine dreg_q [] [] rfl (step_C tab_ok (fun K hk => hk)) ?_
  refine dreg_end (by kernel_rfl) ?_
  refine seq_n ?_
  refine wc_ret ?_
  exact ⟨trivial, _, rfl, [(64, some 128), (65, some 144)], .of rfl rfl rfl rfl rfl ⟨⟨_, rfl, AVLe.of_eq rfl⟩, rfl, trivial⟩ ⟨⟨rfl, rfl, _, rfl, .refl _⟩, ⟨rfl, rfl, _, rfl, .refl _⟩, trivial⟩⟩

theorem refnew_is (N : Nat) (hlen2 : N ≤ 1048576) : FnIs Try.prog 17 [.d (i6 N)] [] (ownA 64 N none 65 N none) [(64, rowB true (zeros N)), (65, rowB true (zeros N))] := by
  obtain ⟨n, hN⟩ : ∃ n : Int, (N : Int) = n := ⟨_, rfl⟩
  rw [show i6 (N : Int) = i6 n by rw [hN]]
  refine fnIs_of tab_ok Try.func17 rfl rfl rfl ?_
  refine wc_seq ?_
  refine wc_region ?_
  refine reg_new (step_C tab_ok (fun K hk => hk)) rfl ?_
  refine reg_nil ?_
  refine seq_n ?_
  refine wc_seq ?_
  refine wc_draw (by kernel_rfl) ?_
  refine dreg_q [0] [] rfl (step_C tab_ok (fun K hk => hk)) ?_
  refine dreg_w [3] [] rfl (make_full (enc := encBlock) (s := 32) (N := N) tab_ok zeroBlock rfl rfl rfl rfl rfl (by rw [hN]; rfl) (by rw [hN]; rfl) hlen2 rfl) ?_
  refine dreg_q [0] [] rfl (step_C tab_ok (fun K hk => hk)) ?_
  refine dreg_w [5] [] rfl (make_full (enc := encBlock) (s := 32) (N := N) tab_ok zeroBlock rfl rfl rfl rfl rfl (by rw [hN]; rfl) (by rw [hN]; rfl) hlen2 rfl) ?_
  refine dreg_q [4, 6] [80, 96] rfl (build_struct tab_ok rfl rfl rfl rfl) ?_
  refine dreg_s [2, 7] [64, 80, 96] (store_row tab_ok rfl rfl rfl ⟨_, ⟨rfl, rfl, rfl⟩, rfl⟩ rfl) ?_
  refine dreg_end (by kernel_rfl) ?_
  refine seq_n ?_
  refine wc_ret ?_
  exact ⟨trivial, _, rfl, [(64, some 80), (65, some 96)], .of rfl rfl rfl rfl rfl ⟨⟨_, rfl, AVLe.of_eq rfl⟩, rfl, trivial⟩ ⟨⟨rfl, rfl, _, rfl, .refl _⟩, ⟨rfl, rfl, _, rfl, .refl _⟩, trivial⟩⟩
theorem refcopy_is (a b : List (List Int)) (ha : 0 < a.length) (hla : a.length ≤ 1048576) (hb : 0 < b.length) (hlb : b.length ≤ 1048576) : FnIs Try.prog 55 [.d (encA a b)] [] (ownA 64 a.length none 65 b.length none) [(64, rowB false a), (65, rowB false b)] := by
  refine fnIs_of tab_ok Try.func55 rfl rfl rfl ?_
  refine wc_seq ?_
  refine wc_region ?_
  refine reg_new (step_C tab_ok (fun K hk => hk)) rfl ?_
  refine reg_new (step_C tab_ok (fun K hk => hk)) rfl ?_
  refine reg_nil ?_
  refine seq_n ?_
  refine wc_seq ?_
  refine wc_draw (by kernel_rfl) ?_
  refine dreg_q [1] [64] rfl (step_C tab_ok (fun K hk => hk)) ?_
  refine dreg_q [3] [64] rfl (load_box tab_ok rfl rfl ⟨_, rfl, rfl⟩ rfl) ?_
  refine dreg_w [4] [] rfl (append_empty_arr (s := 32) (enc := encBlock) (ys := a) tab_ok rfl rfl rfl rfl rfl (.inr rfl) rfl ha hla rfl) ?_
  refine dreg_q [1] [64] rfl (step_C tab_ok (fun K hk => hk)) ?_
  refine dreg_q [6] [64] rfl (load_box tab_ok rfl rfl ⟨_, rfl, rfl⟩ rfl) ?_
  refine dreg_w [7] [] rfl (append_empty_arr (s := 32) (enc := encBlock) (ys := b) tab_ok rfl rfl rfl rfl rfl (.inr rfl) rfl hb hlb rfl) ?_
  refine dreg_q [5, 8] [96, 120] rfl (build_struct tab_ok rfl rfl rfl rfl) ?_
  refine dreg_s [2, 9] [72, 96, 120] (store_row tab_ok rfl rfl rfl ⟨_, ⟨rfl, rfl, rfl⟩, rfl⟩ rfl) ?_
  refine dreg_end (by kernel_rfl) ?_
  refine seq_n ?_
  refine wc_ret ?_
  exact ⟨trivial, _, rfl, [(64, some 96), (65, some 120)], .of rfl rfl rfl rfl rfl ⟨⟨_, rfl, AVLe.of_eq rfl⟩, rfl, trivial⟩ ⟨⟨rfl, rfl, _, rfl, .refl _⟩, ⟨rfl, rfl, _, rfl, .refl _⟩, trivial⟩⟩
end Go.Proofs.Ytjpjchohpjbknaa

/- Arrays: equality, bad operations, Read, Write, Flush, Crash. -/
namespace Go.Proofs.Ytjpjchohpjbknaa
open Go.Eng
set_option maxHeartbeats 2000000
attribute [local irreducible] WC RegS RegD SeqQ BlkQ ScoQ RegK CutK Sat SatN FnIs LoopQ StepIs OpIs
abbrev Blks := List (List Int)
def SameTo (a b : Blks) (i : Nat) : Prop := a.length = b.length ∧ i ≤ a.length ∧ ∀ j : Nat, j < i → a[j]? = b[j]?
theorem same_hit {a b : Blks} {i : Nat} {f g : List Int} (hf : a[i]? = some f) (hg : b[i]? = some g) (h : f ≠ g) : decide (a = b) = false := by
  refine decide_eq_false fun e => h ?_
  subst e
  rw [hf] at hg
  cases hg
  rfl
theorem same_miss {a b : Blks} {i : Nat} (h : SameTo a b i) (hi : i = a.length) : decide (a = b) = true := by
  refine decide_eq_true (List.ext_getElem? fun j => ?_)
  rcases Nat.lt_or_ge j i with h1 | h1
  · exact h.2.2 j h1
  · rw [List.getElem?_eq_none (by omega), List.getElem?_eq_none (by have := h.1; omega)]
theorem same_go {a b : Blks} {i : Nat} {f g : List Int} (h : SameTo a b i) (hf : a[i]? = some f) (hg : b[i]? = some g) (e : f = g) : SameTo a b (i + 1) := by
  refine ⟨h.1, (List.getElem?_eq_some_iff.1 hf).1, fun j hj => ?_⟩
  rcases Nat.lt_or_ge j i with h1 | h1
  · exact h.2.2 j h1
  · have : j = i := by omega
    subst this
    rw [hf, hg, e]
theorem equal_is (a b : Blks) (ha : a.length ≤ 1000000) (hb : b.length ≤ 1000000) : FnIs Try.prog 56 [.d (.arr 32 encBlock a), .d (.arr 32 encBlock b)] [] (.bool (decide (a = b))) [] := by
  refine fnIs_of tab_ok Try.func56 rfl rfl rfl ?_
  refine wc_seq ?_
  refine wc_region ?_
  refine reg_quiet rfl (step_C tab_ok (fun K hk => hk)) ?_
  refine reg_nil ?_
  refine seq_n ?_
  refine wc_seq ?_
  refine wc_seq ?_
  refine wc_region ?_
  refine reg_quiet rfl (step_C tab_ok (fun K hk => hk)) ?_
  refine reg_quiet rfl (len_arr tab_ok rfl rfl) ?_
  refine reg_quiet rfl (step_C tab_ok (fun K hk => hk)) ?_
  refine reg_quiet rfl (len_arr tab_ok rfl rfl) ?_
  refine reg_quiet rfl (step_C tab_ok (fun K hk => hk)) ?_
  refine reg_nil ?_
  refine seq_n ?_
  refine wc_cond rfl (fun h1 => ?_) (fun h1 => ?_)
  · refine wc_seq ?_
    refine wc_region ?_
    refine reg_quiet rfl (step_C tab_ok (fun K hk => hk)) ?_
    refine reg_nil ?_
    refine seq_n ?_
    refine wc_ret ?_
    refine seq_r ?_
    refine ⟨trivial, [], .of rfl rfl rfl rfl rfl ⟨⟨_, rfl, AVLe.of_eq ?_⟩, rfl, trivial⟩ trivial⟩
    rw [decide_eq_false (fun e : a = b => by subst e; simp at h1)]
    rfl
  · have hl : a.length = b.length := by simp only [Bool.not_eq_eq_eq_not, Bool.not_false, decide_eq_true_eq] at h1; omega
    refine wc_skip ?_
    refine seq_n ?_
    refine wc_seq ?_
    refine wc_seq ?_
    refine wc_region ?_
    refine reg_quiet rfl (step_C tab_ok (fun K hk => hk)) ?_
    refine reg_quiet rfl (len_arr tab_ok rfl rfl) ?_
    refine reg_quiet rfl (step_C tab_ok (fun K hk => hk)) ?_
    refine reg_nil ?_
    refine seq_n ?_
    refine wc_block ?_
    refine wc_inv (fun i : Nat => ⟨[(13, .int .i64 i), (12, .int .i64 a.length), (1, .d (.arr 32 encBlock b)), (0, .d (.arr 32 encBlock a))], [], 72, Try.f56.ntmps, 64⟩) (SameTo a b) (fun i => a.length - i) 0 [] ⟨hl, Nat.zero_le _, fun _ h => absurd h (Nat.not_lt_zero _)⟩
      (.of rfl rfl rfl rfl rfl ⟨⟨_, rfl, .refl _⟩, rfl, ⟨_, rfl, .refl _⟩, rfl, ⟨_, rfl, .refl _⟩, rfl, ⟨_, rfl, .refl _⟩, rfl, trivial⟩ trivial) ?_
    intro i hinv
    have hi := hinv.2.1
    refine wc_of ?_
    refine wc_seq ?_
    refine wc_region ?_
    refine reg_quiet rfl (step_C tab_ok (fun K hk => hk)) ?_
    refine reg_nil ?_
    refine seq_n ?_
    refine wc_seq ?_
    refine wc_cond rfl (fun h2 => ?_) (fun h2 => ?_)
    · have hlt : i < a.length := by have := of_decide_eq_true h2; omega
      obtain ⟨f, hf⟩ : ∃ f, a[i]? = some f := ⟨_, List.getElem?_eq_getElem hlt⟩
      obtain ⟨g, hg⟩ : ∃ g, b[i]? = some g := ⟨_, List.getElem?_eq_getElem (hl ▸ hlt)⟩
      have hf' : a[((i : Int)).toNat]? = some f := by rw [Int.toNat_natCast]; exact hf
      have hg' : b[((i : Int)).toNat]? = some g := by rw [Int.toNat_natCast]; exact hg
      refine wc_skip ?_
      refine seq_n ?_
      refine wc_seq ?_
      refine wc_block ?_
      refine wc_seq ?_
      refine wc_region ?_
      refine reg_quiet rfl (step_C tab_ok (fun K hk => hk)) ?_
      refine reg_quiet rfl (step_C tab_ok (fun K hk => hk)) ?_
      refine reg_nil ?_
      refine seq_n ?_
      refine wc_seq ?_
      refine wc_draw (by kernel_rfl) ?_
      refine dreg_q [0] [] rfl (step_C tab_ok (fun K hk => hk)) ?_
      refine dreg_q [5] [] rfl (step_C tab_ok (fun K hk => hk)) ?_
      refine dreg_q [16, 17] [] rfl (index_arr tab_ok rfl rfl rfl rfl rfl (by omega) (by assumption)) ?_
      refine dreg_q [18] [] rfl (load_i tab_ok rfl rfl) ?_
      refine dreg_q [1] [] rfl (step_C tab_ok (fun K hk => hk)) ?_
      refine dreg_q [5] [] rfl (step_C tab_ok (fun K hk => hk)) ?_
      refine dreg_q [20, 21] [] rfl (index_arr tab_ok rfl rfl rfl rfl rfl (by omega) (by assumption)) ?_
      refine dreg_q [22] [] rfl (load_i tab_ok rfl rfl) ?_
      refine dreg_q [19, 23] [] rfl (neq_data rfl rfl rfl rfl (by kernel_rfl) (by decide) (block_eq _ _)) ?_
      refine dreg_end (by kernel_rfl) ?_
      refine seq_n ?_
      refine wc_cond rfl (fun hu => ?_) (fun hu => ?_)
      · refine wc_seq ?_
        refine wc_region ?_
        refine reg_quiet rfl (step_C tab_ok (fun K hk => hk)) ?_
        refine reg_nil ?_
        refine seq_n ?_
        refine wc_ret ?_
        refine blk_r ?_
        refine seq_r ?_
        refine loop_r ?_
        refine blk_r ?_
        refine seq_r ?_
        refine ⟨trivial, [], .of rfl rfl rfl rfl rfl ⟨⟨_, rfl, AVLe.of_eq ?_⟩, rfl, trivial⟩ trivial⟩
        rw [same_hit hf hg (by simpa using hu)]
        rfl
      · refine wc_skip ?_
        refine blk_n ?_
        refine seq_n ?_
        refine wc_region ?_
        refine reg_quiet rfl (add_int tab_ok rfl rfl (wrap_i64 (by omega) (by omega))) ?_
        refine reg_quiet rfl (step_C tab_ok (fun K hk => hk)) ?_
        refine reg_nil ?_
        refine loop_n (i + 1) [] (same_go hinv hf hg (by simpa using hu)) (by omega) ?_
        exact .of rfl rfl rfl rfl rfl ⟨⟨_, rfl, .refl _⟩, rfl, ⟨_, rfl, .refl _⟩, rfl, ⟨_, rfl, .refl _⟩, rfl, ⟨_, rfl, .refl _⟩, rfl, trivial⟩ trivial
    · have he : i = a.length := by have := of_decide_eq_false h2; omega
      refine wc_exit ?_
      refine seq_x ?_
      refine loop_x ?_
      refine blk_x ?_
      refine seq_n ?_
      refine wc_seq ?_
      refine wc_region ?_
      refine reg_quiet rfl (step_C tab_ok (fun K hk => hk)) ?_
      refine reg_nil ?_
      refine seq_n ?_
      refine wc_ret ?_
      refine ⟨trivial, [], .of rfl rfl rfl rfl rfl ⟨⟨_, rfl, AVLe.of_eq ?_⟩, rfl, trivial⟩ trivial⟩
      rw [same_miss hinv he]
      rfl
theorem refsame_is (a b : Blks) (ha : a.length ≤ 1000000) (hb : b.length ≤ 1000000) : FnIs Try.prog 34 [.d (.arr 32 encBlock a), .d (.arr 32 encBlock b)] [] (.bool (decide (a = b))) [] := by
  refine fnIs_of tab_ok Try.func34 rfl rfl rfl ?_
  refine wc_seq ?_
  refine wc_region ?_
  refine reg_quiet rfl (step_C tab_ok (fun K hk => hk)) ?_
  refine reg_nil ?_
  refine seq_n ?_
  refine wc_seq ?_
  refine wc_seq ?_
  refine wc_region ?_
  refine reg_quiet rfl (step_C tab_ok (fun K hk => hk)) ?_
  refine reg_quiet rfl (len_arr tab_ok rfl rfl) ?_
  refine reg_quiet rfl (step_C tab_ok (fun K hk => hk)) ?_
  refine reg_quiet rfl (len_arr tab_ok rfl rfl) ?_
  refine reg_quiet rfl (step_C tab_ok (fun K hk => hk)) ?_
  refine reg_nil ?_
  refine seq_n ?_
  refine wc_cond rfl (fun h1 => ?_) (fun h1 => ?_)
  · refine wc_seq ?_
    refine wc_region ?_
    refine reg_quiet rfl (step_C tab_ok (fun K hk => hk)) ?_
    refine reg_nil ?_
    refine seq_n ?_
    refine wc_ret ?_
    refine seq_r ?_
    refine ⟨trivial, [], .of rfl rfl rfl rfl rfl ⟨⟨_, rfl, AVLe.of_eq ?_⟩, rfl, trivial⟩ trivial⟩
    rw [decide_eq_false (fun e : a = b => by subst e; simp at h1)]
    rfl
  · have hl : a.length = b.length := by simp only [Bool.not_eq_eq_eq_not, Bool.not_false, decide_eq_true_eq] at h1; omega
    refine wc_skip ?_
    refine seq_n ?_
    refine wc_seq ?_
    refine wc_seq ?_
    refine wc_region ?_
    refine reg_quiet rfl (step_C tab_ok (fun K hk => hk)) ?_
    refine reg_nil ?_
    refine seq_n ?_
    refine wc_block ?_
    refine wc_inv (fun i : Nat => ⟨[(5, .int .i64 i), (1, .d (.arr 32 encBlock b)), (0, .d (.arr 32 encBlock a))], [], 72, Try.f34.ntmps, 64⟩) (SameTo a b) (fun i => a.length - i) 0 [] ⟨hl, Nat.zero_le _, fun _ h => absurd h (Nat.not_lt_zero _)⟩
      (.of rfl rfl rfl rfl rfl ⟨⟨_, rfl, .refl _⟩, rfl, ⟨_, rfl, .refl _⟩, rfl, ⟨_, rfl, .refl _⟩, rfl, trivial⟩ trivial) ?_
    intro i hinv
    have hi := hinv.2.1
    refine wc_of ?_
    refine wc_seq ?_
    refine wc_seq ?_
    refine wc_region ?_
    refine reg_quiet rfl (step_C tab_ok (fun K hk => hk)) ?_
    refine reg_quiet rfl (step_C tab_ok (fun K hk => hk)) ?_
    refine reg_quiet rfl (len_arr tab_ok rfl rfl) ?_
    refine reg_quiet rfl (step_C tab_ok (fun K hk => hk)) ?_
    refine reg_nil ?_
    refine seq_n ?_
    refine wc_cond rfl (fun h2 => ?_) (fun h2 => ?_)
    · have hlt : i < a.length := by have := of_decide_eq_true h2; omega
      obtain ⟨f, hf⟩ : ∃ f, a[i]? = some f := ⟨_, List.getElem?_eq_getElem hlt⟩
      obtain ⟨g, hg⟩ : ∃ g, b[i]? = some g := ⟨_, List.getElem?_eq_getElem (hl ▸ hlt)⟩
      have hf' : a[((i : Int)).toNat]? = some f := by rw [Int.toNat_natCast]; exact hf
      have hg' : b[((i : Int)).toNat]? = some g := by rw [Int.toNat_natCast]; exact hg
      refine wc_skip ?_
      refine seq_n ?_
      refine wc_seq ?_
      refine wc_block ?_
      refine wc_seq ?_
      refine wc_draw (by kernel_rfl) ?_
      refine dreg_q [0] [] rfl (step_C tab_ok (fun K hk => hk)) ?_
      refine dreg_q [5] [] rfl (step_C tab_ok (fun K hk => hk)) ?_
      refine dreg_q [17, 18] [] rfl (index_arr tab_ok rfl rfl rfl rfl rfl (by omega) (by assumption)) ?_
      refine dreg_q [19] [] rfl (load_i tab_ok rfl rfl) ?_
      refine dreg_q [1] [] rfl (step_C tab_ok (fun K hk => hk)) ?_
      refine dreg_q [5] [] rfl (step_C tab_ok (fun K hk => hk)) ?_
      refine dreg_q [21, 22] [] rfl (index_arr tab_ok rfl rfl rfl rfl rfl (by omega) (by assumption)) ?_
      refine dreg_q [23] [] rfl (load_i tab_ok rfl rfl) ?_
      refine dreg_q [20, 24] [] rfl (neq_data rfl rfl rfl rfl (by kernel_rfl) (by decide) (block_eq _ _)) ?_
      refine dreg_end (by kernel_rfl) ?_
      refine seq_n ?_
      refine wc_cond rfl (fun hu => ?_) (fun hu => ?_)
      · refine wc_seq ?_
        refine wc_region ?_
        refine reg_quiet rfl (step_C tab_ok (fun K hk => hk)) ?_
        refine reg_nil ?_
        refine seq_n ?_
        refine wc_ret ?_
        refine blk_r ?_
        refine seq_r ?_
        refine loop_r ?_
        refine blk_r ?_
        refine seq_r ?_
        refine ⟨trivial, [], .of rfl rfl rfl rfl rfl ⟨⟨_, rfl, AVLe.of_eq ?_⟩, rfl, trivial⟩ trivial⟩
        rw [same_hit hf hg (by simpa using hu)]
        rfl
      · refine wc_skip ?_
        refine blk_n ?_
        refine seq_n ?_
        refine wc_region ?_
        refine reg_quiet rfl (step_C tab_ok (fun K hk => hk)) ?_
        refine reg_quiet rfl (add_int tab_ok rfl rfl (wrap_i64 (by omega) (by omega))) ?_
        refine reg_quiet rfl (step_C tab_ok (fun K hk => hk)) ?_
        refine reg_nil ?_
        refine loop_n (i + 1) [] (same_go hinv hf hg (by simpa using hu)) (by omega) ?_
        exact .of rfl rfl rfl rfl rfl ⟨⟨_, rfl, .refl _⟩, rfl, ⟨_, rfl, .refl _⟩, rfl, ⟨_, rfl, .refl _⟩, rfl, trivial⟩ trivial
    · have he : i = a.length := by have := of_decide_eq_false h2; omega
      refine wc_exit ?_
      refine seq_x ?_
      refine loop_x ?_
      refine blk_x ?_
      refine seq_n ?_
      refine wc_seq ?_
      refine wc_region ?_
      refine reg_quiet rfl (step_C tab_ok (fun K hk => hk)) ?_
      refine reg_nil ?_
      refine seq_n ?_
      refine wc_ret ?_
      refine ⟨trivial, [], .of rfl rfl rfl rfl rfl ⟨⟨_, rfl, AVLe.of_eq ?_⟩, rfl, trivial⟩ trivial⟩
      rw [same_miss hinv he]
      rfl
theorem same_is (a b c d : Blks) (ha : a.length ≤ 1000000) (hb : b.length ≤ 1000000) (hc : c.length ≤ 1000000) (hd : d.length ≤ 1000000) : FnIs Try.prog 27 [.d (encA a b), .d (encA c d)] [] (.bool (decide (a = c) && decide (b = d))) [] := by
  cases h1 : decide (a = c) with
  | true =>
    refine fnIs_of tab_ok Try.func27 rfl rfl rfl ?_
    refine wc_seq ?_
    refine wc_region ?_
    refine reg_new (step_C tab_ok (fun K hk => hk)) rfl ?_
    refine reg_new (step_C tab_ok (fun K hk => hk)) rfl ?_
    refine reg_quiet rfl (step_C tab_ok (fun K hk => hk)) ?_
    refine reg_nil ?_
    refine seq_n ?_
    refine wc_seq ?_
    refine wc_region ?_
    refine reg_quiet rfl (step_C tab_ok (fun K hk => hk)) ?_
    refine reg_quiet rfl (load_box tab_ok rfl rfl ⟨_, rfl, rfl⟩ rfl) ?_
    refine reg_quiet rfl (step_C tab_ok (fun K hk => hk)) ?_
    refine reg_quiet rfl (load_box tab_ok rfl rfl ⟨_, rfl, rfl⟩ rfl) ?_
    refine reg_quiet rfl (call_r (equal_is a c ha hc) rfl rfl (arg_e (arg_e arg_nil)) (.inl rfl) (fun _ => rfl)) ?_
    refine reg_quiet rfl (step_C tab_ok (fun K hk => hk)) ?_
    refine reg_on rfl rfl (by assumption) ?_
    refine reg_quiet rfl (step_C tab_ok (fun K hk => hk)) ?_
    refine reg_on rfl rfl (by assumption) ?_
    refine reg_quiet rfl (load_box tab_ok rfl rfl ⟨_, rfl, rfl⟩ rfl) ?_
    refine reg_on rfl rfl (by assumption) ?_
    refine reg_quiet rfl (step_C tab_ok (fun K hk => hk)) ?_
    refine reg_on rfl rfl (by assumption) ?_
    refine reg_quiet rfl (load_box tab_ok rfl rfl ⟨_, rfl, rfl⟩ rfl) ?_
    refine reg_on rfl rfl (by assumption) ?_
    refine reg_quiet rfl (call_r (equal_is b d hb hd) rfl rfl (arg_e (arg_e arg_nil)) (.inl rfl) (fun _ => rfl)) ?_
    refine reg_quiet rfl (pick_T tab_ok rfl (by assumption) rfl) ?_
    refine reg_quiet rfl (step_C tab_ok (fun K hk => hk)) ?_
    refine reg_nil ?_
    refine seq_n ?_
    refine wc_ret ?_
    exact ⟨trivial, [], .of rfl rfl rfl rfl rfl ⟨⟨_, rfl, AVLe.of_eq rfl⟩, rfl, trivial⟩ trivial⟩
  | false =>
    refine fnIs_of tab_ok Try.func27 rfl rfl rfl ?_
    refine wc_seq ?_
    refine wc_region ?_
    refine reg_new (step_C tab_ok (fun K hk => hk)) rfl ?_
    refine reg_new (step_C tab_ok (fun K hk => hk)) rfl ?_
    refine reg_quiet rfl (step_C tab_ok (fun K hk => hk)) ?_
    refine reg_nil ?_
    refine seq_n ?_
    refine wc_seq ?_
    refine wc_region ?_
    refine reg_quiet rfl (step_C tab_ok (fun K hk => hk)) ?_
    refine reg_quiet rfl (load_box tab_ok rfl rfl ⟨_, rfl, rfl⟩ rfl) ?_
    refine reg_quiet rfl (step_C tab_ok (fun K hk => hk)) ?_
    refine reg_quiet rfl (load_box tab_ok rfl rfl ⟨_, rfl, rfl⟩ rfl) ?_
    refine reg_quiet rfl (call_r (equal_is a c ha hc) rfl rfl (arg_e (arg_e arg_nil)) (.inl rfl) (fun _ => rfl)) ?_
    refine reg_quiet rfl (step_C tab_ok (fun K hk => hk)) ?_
    refine reg_skip rfl rfl (by assumption) rfl rfl ?_
    refine reg_skip rfl rfl (by assumption) rfl rfl ?_
    refine reg_skip rfl rfl (by assumption) rfl rfl ?_
    refine reg_skip rfl rfl (by assumption) rfl rfl ?_
    refine reg_skip rfl rfl (by assumption) rfl rfl ?_
    refine reg_quiet rfl (pick_F tab_ok rfl (by assumption) rfl) ?_
    refine reg_quiet rfl (step_C tab_ok (fun K hk => hk)) ?_
    refine reg_nil ?_
    refine seq_n ?_
    refine wc_ret ?_
    exact ⟨trivial, [], .of rfl rfl rfl rfl rfl ⟨⟨_, rfl, AVLe.of_eq rfl⟩, rfl, trivial⟩ trivial⟩
def badOp (n : Int) (o : Oper) : Bool :=
  if o.kind = 3 then false else if o.kind = 1 then (decide (o.index < 0) || decide (o.index ≥ n)) else if o.kind = 2 then (!decide ((o.data.length : Int) = 32) || (decide (o.index < 0) || decide (o.index ≥ n))) else true
theorem bad_is (n : Int) (o : Oper) : FnIs Try.prog 21 [.d (i6 n), .d (encOp o)] [] (.bool (badOp n o)) [] := by
  refine fnIs_of tab_ok Try.func21 rfl rfl rfl ?_
  refine wc_seq ?_
  refine wc_region ?_
  refine reg_new (step_C tab_ok (fun K hk => hk)) rfl ?_
  refine reg_quiet rfl (step_C tab_ok (fun K hk => hk)) ?_
  refine reg_nil ?_
  refine seq_n ?_
  refine wc_seq ?_
  refine wc_seq ?_
  refine wc_region ?_
  refine reg_quiet rfl (step_C tab_ok (fun K hk => hk)) ?_
  refine reg_quiet rfl (load_box tab_ok rfl rfl ⟨_, rfl, rfl⟩ rfl) ?_
  refine reg_nil ?_
  refine seq_n ?_
  refine wc_block ?_
  refine wc_seq ?_
  refine wc_block ?_
  refine wc_seq ?_
  refine wc_block ?_
  refine wc_seq ?_
  refine wc_block ?_
  refine wc_seq ?_
  refine wc_seq ?_
  refine wc_seq ?_
  refine wc_region ?_
  refine reg_quiet rfl (step_C tab_ok (fun K hk => hk)) ?_
  refine reg_quiet rfl (step_C tab_ok (fun K hk => hk)) ?_
  refine reg_nil ?_
  refine seq_n ?_
  refine wc_cond rfl (fun hb => ?_) (fun hb => ?_)
  refine wc_exit ?_
  refine seq_x ?_
  refine seq_x ?_
  refine blk_x ?_
  refine seq_n ?_
  refine wc_seq ?_
  refine wc_region ?_
  refine reg_quiet rfl (step_C tab_ok (fun K hk => hk)) ?_
  refine reg_quiet rfl (load_box tab_ok rfl rfl ⟨_, rfl, rfl⟩ rfl) ?_
  refine reg_quiet rfl (len_arr tab_ok rfl rfl) ?_
  refine reg_quiet rfl (step_C tab_ok (fun K hk => hk)) ?_
  refine reg_nil ?_
  refine seq_n ?_
  refine wc_cond rfl (fun hb => ?_) (fun hb => ?_)
  refine wc_seq ?_
  refine wc_region ?_
  refine reg_quiet rfl (step_C tab_ok (fun K hk => hk)) ?_
  refine reg_nil ?_
  refine seq_n ?_
  refine wc_ret ?_
  refine blk_r ?_
  refine seq_r ?_
  refine blk_r ?_
  refine seq_r ?_
  refine blk_r ?_
  refine seq_r ?_
  rotate_left
  refine wc_skip ?_
  refine blk_n ?_
  refine seq_n ?_
  refine wc_seq ?_
  refine wc_seq ?_
  refine wc_region ?_
  refine reg_quiet rfl (step_C tab_ok (fun K hk => hk)) ?_
  refine reg_quiet rfl (load_box tab_ok rfl rfl ⟨_, rfl, rfl⟩ rfl) ?_
  refine reg_quiet rfl (step_C tab_ok (fun K hk => hk)) ?_
  refine reg_quiet rfl (step_C tab_ok (fun K hk => hk)) ?_
  refine reg_split rfl rfl rfl (fun hb => ?_) (fun hb => ?_)
  refine reg_on rfl rfl (by assumption) ?_
  refine reg_quiet rfl (step_C tab_ok (fun K hk => hk)) ?_
  refine reg_on rfl rfl (by assumption) ?_
  refine reg_quiet rfl (load_box tab_ok rfl rfl ⟨_, rfl, rfl⟩ rfl) ?_
  refine reg_on rfl rfl (by assumption) ?_
  refine reg_quiet rfl (step_C tab_ok (fun K hk => hk)) ?_
  refine reg_on rfl rfl (by assumption) ?_
  refine reg_quiet rfl (step_C tab_ok (fun K hk => hk)) ?_
  refine reg_quiet rfl (pick_F tab_ok rfl (by assumption) rfl) ?_
  refine reg_quiet rfl (step_C tab_ok (fun K hk => hk)) ?_
  refine reg_nil ?_
  refine seq_n ?_
  refine wc_ret ?_
  refine seq_r ?_
  refine blk_r ?_
  refine seq_r ?_
  refine blk_r ?_
  refine seq_r ?_
  rotate_left
  refine reg_skip rfl rfl (by assumption) rfl rfl ?_
  refine reg_skip rfl rfl (by assumption) rfl rfl ?_
  refine reg_skip rfl rfl (by assumption) rfl rfl ?_
  refine reg_skip rfl rfl (by assumption) rfl rfl ?_
  refine reg_quiet rfl (pick_T tab_ok rfl (by assumption) rfl) ?_
  refine reg_quiet rfl (step_C tab_ok (fun K hk => hk)) ?_
  refine reg_nil ?_
  refine seq_n ?_
  refine wc_ret ?_
  refine seq_r ?_
  refine blk_r ?_
  refine seq_r ?_
  refine blk_r ?_
  refine seq_r ?_
  rotate_left
  refine wc_skip ?_
  refine seq_n ?_
  refine wc_seq ?_
  refine wc_seq ?_
  refine wc_region ?_
  refine reg_quiet rfl (step_C tab_ok (fun K hk => hk)) ?_
  refine reg_quiet rfl (step_C tab_ok (fun K hk => hk)) ?_
  refine reg_nil ?_
  refine seq_n ?_
  refine wc_cond rfl (fun hb => ?_) (fun hb => ?_)
  refine wc_exit ?_
  refine seq_x ?_
  refine seq_x ?_
  refine blk_y rfl ?_
  refine seq_x ?_
  refine blk_x ?_
  refine seq_n ?_
  refine wc_seq ?_
  refine wc_seq ?_
  refine wc_region ?_
  refine reg_quiet rfl (step_C tab_ok (fun K hk => hk)) ?_
  refine reg_quiet rfl (load_box tab_ok rfl rfl ⟨_, rfl, rfl⟩ rfl) ?_
  refine reg_quiet rfl (step_C tab_ok (fun K hk => hk)) ?_
  refine reg_quiet rfl (step_C tab_ok (fun K hk => hk)) ?_
  refine reg_split rfl rfl rfl (fun hb => ?_) (fun hb => ?_)
  refine reg_on rfl rfl (by assumption) ?_
  refine reg_quiet rfl (step_C tab_ok (fun K hk => hk)) ?_
  refine reg_on rfl rfl (by assumption) ?_
  refine reg_quiet rfl (load_box tab_ok rfl rfl ⟨_, rfl, rfl⟩ rfl) ?_
  refine reg_on rfl rfl (by assumption) ?_
  refine reg_quiet rfl (step_C tab_ok (fun K hk => hk)) ?_
  refine reg_on rfl rfl (by assumption) ?_
  refine reg_quiet rfl (step_C tab_ok (fun K hk => hk)) ?_
  refine reg_quiet rfl (pick_F tab_ok rfl (by assumption) rfl) ?_
  refine reg_quiet rfl (step_C tab_ok (fun K hk => hk)) ?_
  refine reg_nil ?_
  refine seq_n ?_
  refine wc_ret ?_
  refine seq_r ?_
  refine blk_r ?_
  refine seq_r ?_
  refine blk_r ?_
  refine seq_r ?_
  rotate_left
  refine reg_skip rfl rfl (by assumption) rfl rfl ?_
  refine reg_skip rfl rfl (by assumption) rfl rfl ?_
  refine reg_skip rfl rfl (by assumption) rfl rfl ?_
  refine reg_skip rfl rfl (by assumption) rfl rfl ?_
  refine reg_quiet rfl (pick_T tab_ok rfl (by assumption) rfl) ?_
  refine reg_quiet rfl (step_C tab_ok (fun K hk => hk)) ?_
  refine reg_nil ?_
  refine seq_n ?_
  refine wc_ret ?_
  refine seq_r ?_
  refine blk_r ?_
  refine seq_r ?_
  refine blk_r ?_
  refine seq_r ?_
  rotate_left
  refine wc_skip ?_
  refine seq_n ?_
  refine wc_seq ?_
  refine wc_region ?_
  refine reg_quiet rfl (step_C tab_ok (fun K hk => hk)) ?_
  refine reg_quiet rfl (step_C tab_ok (fun K hk => hk)) ?_
  refine reg_nil ?_
  refine seq_n ?_
  refine wc_cond rfl (fun hb => ?_) (fun hb => ?_)
  refine wc_exit ?_
  refine seq_x ?_
  refine blk_y rfl ?_
  refine seq_x ?_
  refine blk_y rfl ?_
  refine seq_x ?_
  refine blk_x ?_
  refine seq_n ?_
  refine wc_seq ?_
  refine wc_seq ?_
  refine wc_region ?_
  refine reg_quiet rfl (step_C tab_ok (fun K hk => hk)) ?_
  refine reg_nil ?_
  refine seq_n ?_
  refine wc_ret ?_
  refine seq_r ?_
  refine blk_r ?_
  refine seq_r ?_
  rotate_left
  refine wc_skip ?_
  refine seq_n ?_
  refine wc_exit ?_
  refine blk_y rfl ?_
  refine seq_x ?_
  refine blk_y rfl ?_
  refine seq_x ?_
  refine blk_y rfl ?_
  refine seq_x ?_
  refine blk_x ?_
  refine seq_n ?_
  refine wc_seq ?_
  refine wc_region ?_
  refine reg_quiet rfl (step_C tab_ok (fun K hk => hk)) ?_
  refine reg_nil ?_
  refine seq_n ?_
  refine wc_ret ?_
  rotate_left
  all_goals refine ⟨trivial, [], .of rfl rfl rfl rfl rfl ⟨⟨_, rfl, AVLe.of_eq ?_⟩, rfl, trivial⟩ trivial⟩
  all_goals first | (simp_all [retOne, AV.ren, badOp]; done) | (simp_all [retOne, AV.ren, badOp]; omega)
theorem refbad_is (n : Int) (o : Oper) : FnIs Try.prog 30 [.d (i6 n), .d (encOp o)] [] (.bool (badOp n o)) [] := by
  refine fnIs_of tab_ok Try.func30 rfl rfl rfl ?_
  refine wc_seq ?_
  refine wc_region ?_
  refine reg_new (step_C tab_ok (fun K hk => hk)) rfl ?_
  refine reg_quiet rfl (step_C tab_ok (fun K hk => hk)) ?_
  refine reg_nil ?_
  refine seq_n ?_
  refine wc_seq ?_
  refine wc_seq ?_
  refine wc_region ?_
  refine reg_quiet rfl (step_C tab_ok (fun K hk => hk)) ?_
  refine reg_quiet rfl (load_box tab_ok rfl rfl ⟨_, rfl, rfl⟩ rfl) ?_
  refine reg_quiet rfl (step_C tab_ok (fun K hk => hk)) ?_
  refine reg_nil ?_
  refine seq_n ?_
  refine wc_cond rfl (fun hb => ?_) (fun hb => ?_)
  refine wc_seq ?_
  refine wc_region ?_
  refine reg_quiet rfl (step_C tab_ok (fun K hk => hk)) ?_
  refine reg_nil ?_
  refine seq_n ?_
  refine wc_ret ?_
  refine seq_r ?_
  rotate_left
  refine wc_skip ?_
  refine seq_n ?_
  refine wc_seq ?_
  refine wc_seq_cut 26 (.bool (((!decide (o.kind = 1) && !decide (o.kind = 2)) || decide (o.index < 0)) || decide (o.index ≥ n))) _ rfl ?_ ?_
  · refine reg_quiet rfl (step_C tab_ok (fun K hk => hk)) ?_
    refine reg_quiet rfl (load_box tab_ok rfl rfl ⟨_, rfl, rfl⟩ rfl) ?_
    refine reg_quiet rfl (step_C tab_ok (fun K hk => hk)) ?_
    refine reg_quiet rfl (step_C tab_ok (fun K hk => hk)) ?_
    refine reg_split rfl rfl rfl (fun hb => ?_) (fun hb => ?_)
    refine reg_on rfl rfl (by assumption) ?_
    refine reg_quiet rfl (step_C tab_ok (fun K hk => hk)) ?_
    refine reg_on rfl rfl (by assumption) ?_
    refine reg_quiet rfl (load_box tab_ok rfl rfl ⟨_, rfl, rfl⟩ rfl) ?_
    refine reg_on rfl rfl (by assumption) ?_
    refine reg_quiet rfl (step_C tab_ok (fun K hk => hk)) ?_
    refine reg_quiet rfl (pick_T tab_ok rfl (by assumption) rfl) ?_
    refine reg_quiet rfl (step_C tab_ok (fun K hk => hk)) ?_
    refine reg_split rfl rfl rfl (fun hb => ?_) (fun hb => ?_)
    refine reg_on rfl rfl (by assumption) ?_
    refine reg_quiet rfl (step_C tab_ok (fun K hk => hk)) ?_
    refine reg_on rfl rfl (by assumption) ?_
    refine reg_quiet rfl (load_box tab_ok rfl rfl ⟨_, rfl, rfl⟩ rfl) ?_
    refine reg_on rfl rfl (by assumption) ?_
    refine reg_quiet rfl (step_C tab_ok (fun K hk => hk)) ?_
    refine reg_quiet rfl (pick_F tab_ok rfl (by assumption) rfl) ?_
    refine reg_quiet rfl (step_C tab_ok (fun K hk => hk)) ?_
    refine reg_split rfl rfl rfl (fun hb => ?_) (fun hb => ?_)
    refine reg_on rfl rfl (by assumption) ?_
    refine reg_quiet rfl (step_C tab_ok (fun K hk => hk)) ?_
    refine reg_on rfl rfl (by assumption) ?_
    refine reg_quiet rfl (load_box tab_ok rfl rfl ⟨_, rfl, rfl⟩ rfl) ?_
    refine reg_on rfl rfl (by assumption) ?_
    refine reg_quiet rfl (step_C tab_ok (fun K hk => hk)) ?_
    refine reg_on rfl rfl (by assumption) ?_
    refine reg_quiet rfl (step_C tab_ok (fun K hk => hk)) ?_
    refine reg_quiet rfl (pick_F tab_ok rfl (by assumption) rfl) ?_
    rotate_left
    refine reg_skip rfl rfl (by assumption) rfl rfl ?_
    refine reg_skip rfl rfl (by assumption) rfl rfl ?_
    refine reg_skip rfl rfl (by assumption) rfl rfl ?_
    refine reg_skip rfl rfl (by assumption) rfl rfl ?_
    refine reg_quiet rfl (pick_T tab_ok rfl (by assumption) rfl) ?_
    rotate_left
    refine reg_skip rfl rfl (by assumption) rfl rfl ?_
    refine reg_skip rfl rfl (by assumption) rfl rfl ?_
    refine reg_skip rfl rfl (by assumption) rfl rfl ?_
    refine reg_quiet rfl (pick_T tab_ok rfl (by assumption) rfl) ?_
    refine reg_quiet rfl (step_C tab_ok (fun K hk => hk)) ?_
    refine reg_skip rfl rfl rfl rfl rfl ?_
    refine reg_skip rfl rfl rfl rfl rfl ?_
    refine reg_skip rfl rfl rfl rfl rfl ?_
    refine reg_skip rfl rfl rfl rfl rfl ?_
    refine reg_quiet rfl (pick_T tab_ok rfl rfl rfl) ?_
    rotate_left
    refine reg_skip rfl rfl (by assumption) rfl rfl ?_
    refine reg_skip rfl rfl (by assumption) rfl rfl ?_
    refine reg_skip rfl rfl (by assumption) rfl rfl ?_
    refine reg_quiet rfl (pick_F tab_ok rfl (by assumption) rfl) ?_
    refine reg_quiet rfl (step_C tab_ok (fun K hk => hk)) ?_
    refine reg_on rfl rfl rfl ?_
    refine reg_quiet rfl (step_C tab_ok (fun K hk => hk)) ?_
    refine reg_on rfl rfl rfl ?_
    refine reg_quiet rfl (load_box tab_ok rfl rfl ⟨_, rfl, rfl⟩ rfl) ?_
    refine reg_on rfl rfl rfl ?_
    refine reg_quiet rfl (step_C tab_ok (fun K hk => hk)) ?_
    refine reg_quiet rfl (pick_F tab_ok rfl rfl rfl) ?_
    refine reg_quiet rfl (step_C tab_ok (fun K hk => hk)) ?_
    refine reg_split rfl rfl rfl (fun hb => ?_) (fun hb => ?_)
    refine reg_on rfl rfl (by assumption) ?_
    refine reg_quiet rfl (step_C tab_ok (fun K hk => hk)) ?_
    refine reg_on rfl rfl (by assumption) ?_
    refine reg_quiet rfl (load_box tab_ok rfl rfl ⟨_, rfl, rfl⟩ rfl) ?_
    refine reg_on rfl rfl (by assumption) ?_
    refine reg_quiet rfl (step_C tab_ok (fun K hk => hk)) ?_
    refine reg_on rfl rfl (by assumption) ?_
    refine reg_quiet rfl (step_C tab_ok (fun K hk => hk)) ?_
    refine reg_quiet rfl (pick_F tab_ok rfl (by assumption) rfl) ?_
    rotate_left
    refine reg_skip rfl rfl (by assumption) rfl rfl ?_
    refine reg_skip rfl rfl (by assumption) rfl rfl ?_
    refine reg_skip rfl rfl (by assumption) rfl rfl ?_
    refine reg_skip rfl rfl (by assumption) rfl rfl ?_
    refine reg_quiet rfl (pick_T tab_ok rfl (by assumption) rfl) ?_
    rotate_left
    all_goals refine reg_cut 19 rfl rfl rfl rfl rfl rfl rfl rfl rfl (AVLe.of_eq ?_)
    all_goals (first | rfl | (clear q5; simp_all; done) | (simp_all; done) | (simp_all; omega))
  refine wc_cond rfl (fun hb => ?_) (fun hb => ?_)
  refine wc_seq ?_
  refine wc_region ?_
  refine reg_quiet rfl (step_C tab_ok (fun K hk => hk)) ?_
  refine reg_nil ?_
  refine seq_n ?_
  refine wc_ret ?_
  refine seq_r ?_
  rotate_left
  refine wc_skip ?_
  refine seq_n ?_
  refine wc_seq ?_
  refine wc_region ?_
  refine reg_quiet rfl (step_C tab_ok (fun K hk => hk)) ?_
  refine reg_quiet rfl (load_box tab_ok rfl rfl ⟨_, rfl, rfl⟩ rfl) ?_
  refine reg_quiet rfl (step_C tab_ok (fun K hk => hk)) ?_
  refine reg_quiet rfl (step_C tab_ok (fun K hk => hk)) ?_
  refine reg_split rfl rfl rfl (fun hb => ?_) (fun hb => ?_)
  refine reg_on rfl rfl (by assumption) ?_
  refine reg_quiet rfl (step_C tab_ok (fun K hk => hk)) ?_
  refine reg_on rfl rfl (by assumption) ?_
  refine reg_quiet rfl (load_box tab_ok rfl rfl ⟨_, rfl, rfl⟩ rfl) ?_
  refine reg_on rfl rfl (by assumption) ?_
  refine reg_quiet rfl (len_arr tab_ok rfl rfl) ?_
  refine reg_on rfl rfl (by assumption) ?_
  refine reg_quiet rfl (step_C tab_ok (fun K hk => hk)) ?_
  refine reg_quiet rfl (pick_T tab_ok rfl (by assumption) rfl) ?_
  refine reg_quiet rfl (step_C tab_ok (fun K hk => hk)) ?_
  refine reg_nil ?_
  refine seq_n ?_
  refine wc_ret ?_
  rotate_left
  refine reg_skip rfl rfl (by assumption) rfl rfl ?_
  refine reg_skip rfl rfl (by assumption) rfl rfl ?_
  refine reg_skip rfl rfl (by assumption) rfl rfl ?_
  refine reg_skip rfl rfl (by assumption) rfl rfl ?_
  refine reg_quiet rfl (pick_F tab_ok rfl (by assumption) rfl) ?_
  refine reg_quiet rfl (step_C tab_ok (fun K hk => hk)) ?_
  refine reg_nil ?_
  refine seq_n ?_
  refine wc_ret ?_
  rotate_left
  all_goals refine ⟨trivial, [], .of rfl rfl rfl rfl rfl ⟨⟨_, rfl, AVLe.of_eq ?_⟩, rfl, trivial⟩ trivial⟩
  all_goals (unfold badOp; by_cases h1 : o.kind = 1 <;> by_cases h2 : o.kind = 2 <;> first | (simp_all [retOne, AV.ren]; done) | (simp_all [retOne, AV.ren]; omega))
end Go.Proofs.Ytjpjchohpjbknaa

/- Arrays: Read, Write, Flush, Crash. -/
namespace Go.Proofs.Ytjpjchohpjbknaa
open Go.Eng
set_option maxHeartbeats 2000000
attribute [local irreducible] WC RegS RegD SeqQ BlkQ ScoQ RegK CutK Sat SatN FnIs LoopQ StepIs OpIs
def outI (a : Blks) (i : Int) : Bool := decide (i < 0) || decide (i ≥ (a.length : Int))
def atE (a b : Blks) (i : Int) : Int := if okA a b = true then (if outI a i = true then 1 else 0) else 1
abbrev tup2 (x y : D) : AV := .tup (.acons (.d x) (.acons (.d y) .anil))
theorem at_is (a b : Blks) (i : Int) : FnIs Try.prog 59 [.d (encA a b), .d (i6 i)] [] (.int .i64 (atE a b i)) [] := by
  have hC := check_is a b
  unfold atE
  cases h1 : okA a b with
  | false =>
    rw [h1] at hC
    rw [if_neg (by simp)] at hC
    rw [if_neg (by simp)]
    refine fnIs_of tab_ok Try.func59 rfl rfl rfl ?_
    refine wc_seq ?_
    refine wc_region ?_
    refine reg_new (step_C tab_ok (fun K hk => hk)) rfl ?_
    refine reg_quiet rfl (step_C tab_ok (fun K hk => hk)) ?_
    refine reg_nil ?_
    refine seq_n ?_
    refine wc_seq ?_
    refine wc_seq ?_
    refine wc_region ?_
    refine reg_quiet rfl (load_box tab_ok rfl rfl rfl rfl) ?_
    refine reg_quiet rfl (call_r hC rfl rfl (arg_e arg_nil) (.inl rfl) (fun _ => rfl)) ?_
    refine reg_quiet rfl (step_C tab_ok (fun K hk => hk)) ?_
    refine reg_nil ?_
    refine seq_n ?_
    refine wc_seq ?_
    refine wc_region ?_
    refine reg_quiet rfl (step_C tab_ok (fun K hk => hk)) ?_
    refine reg_quiet rfl (step_C tab_ok (fun K hk => hk)) ?_
    refine reg_nil ?_
    refine seq_n ?_
    refine wc_true rfl rfl ?_
    refine wc_seq ?_
    refine wc_region ?_
    refine reg_quiet rfl (step_C tab_ok (fun K hk => hk)) ?_
    refine reg_quiet rfl (step_C tab_ok (fun K hk => hk)) ?_
    refine reg_nil ?_
    refine seq_n ?_
    refine wc_ret ?_
    refine seq_r ?_
    exact ⟨trivial, [], .of rfl rfl rfl rfl rfl ⟨⟨_, rfl, AVLe.of_eq rfl⟩, rfl, trivial⟩ trivial⟩
  | true =>
    rw [h1, if_pos rfl] at hC
    rw [if_pos rfl]
    cases h2 : outI a i with
    | true =>
      rw [if_pos rfl]
      unfold outI at h2
      refine fnIs_of tab_ok Try.func59 rfl rfl rfl ?_
      refine wc_seq ?_
      refine wc_region ?_
      refine reg_new (step_C tab_ok (fun K hk => hk)) rfl ?_
      refine reg_quiet rfl (step_C tab_ok (fun K hk => hk)) ?_
      refine reg_nil ?_
      refine seq_n ?_
      refine wc_seq ?_
      refine wc_seq ?_
      refine wc_region ?_
      refine reg_quiet rfl (load_box tab_ok rfl rfl rfl rfl) ?_
      refine reg_quiet rfl (call_r hC rfl rfl (arg_e arg_nil) (.inl rfl) (fun _ => rfl)) ?_
      refine reg_quiet rfl (step_C tab_ok (fun K hk => hk)) ?_
      refine reg_nil ?_
      refine seq_n ?_
      refine wc_seq ?_
      refine wc_region ?_
      refine reg_quiet rfl (step_C tab_ok (fun K hk => hk)) ?_
      refine reg_quiet rfl (step_C tab_ok (fun K hk => hk)) ?_
      refine reg_nil ?_
      refine seq_n ?_
      refine wc_false rfl rfl ?_
      refine wc_skip ?_
      refine seq_n ?_
      refine wc_seq ?_
      refine wc_seq_cut 19 (.bool (decide (i < 0) || decide (i ≥ (a.length : Int)))) _ rfl ?_ ?_
      · refine reg_quiet rfl (step_C tab_ok (fun K hk => hk)) ?_
        refine reg_quiet rfl (step_C tab_ok (fun K hk => hk)) ?_
        refine reg_quiet rfl (step_C tab_ok (fun K hk => hk)) ?_
        refine reg_split rfl rfl rfl (fun hb => ?_) (fun hb => ?_)
        refine reg_on rfl rfl (by assumption) ?_
        refine reg_quiet rfl (step_C tab_ok (fun K hk => hk)) ?_
        refine reg_on rfl rfl (by assumption) ?_
        refine reg_quiet rfl (step_C tab_ok (fun K hk => hk)) ?_
        refine reg_on rfl rfl (by assumption) ?_
        refine reg_quiet rfl (load_box tab_ok rfl rfl ⟨_, rfl, rfl⟩ rfl) ?_
        refine reg_on rfl rfl (by assumption) ?_
        refine reg_quiet rfl (len_arr tab_ok rfl rfl) ?_
        refine reg_on rfl rfl (by assumption) ?_
        refine reg_quiet rfl (step_C tab_ok (fun K hk => hk)) ?_
        refine reg_quiet rfl (pick_F tab_ok rfl (by assumption) rfl) ?_
        rotate_left
        refine reg_skip rfl rfl (by assumption) rfl rfl ?_
        refine reg_skip rfl rfl (by assumption) rfl rfl ?_
        refine reg_skip rfl rfl (by assumption) rfl rfl ?_
        refine reg_skip rfl rfl (by assumption) rfl rfl ?_
        refine reg_skip rfl rfl (by assumption) rfl rfl ?_
        refine reg_quiet rfl (pick_T tab_ok rfl (by assumption) rfl) ?_
        rotate_left
        all_goals refine reg_cut 9 rfl rfl rfl rfl rfl rfl rfl rfl rfl (AVLe.of_eq ?_)
        all_goals (first | rfl | (clear q5; simp_all; done) | (simp_all; done) | (simp_all; omega))
      refine wc_true rfl (by assumption) ?_
      refine wc_seq ?_
      refine wc_region ?_
      refine reg_quiet rfl (step_C tab_ok (fun K hk => hk)) ?_
      refine reg_nil ?_
      refine seq_n ?_
      refine wc_ret ?_
      refine seq_r ?_
      exact ⟨trivial, [], .of rfl rfl rfl rfl rfl ⟨⟨_, rfl, AVLe.of_eq rfl⟩, rfl, trivial⟩ trivial⟩
    | false =>
      rw [if_neg (by simp)]
      unfold outI at h2
      refine fnIs_of tab_ok Try.func59 rfl rfl rfl ?_
      refine wc_seq ?_
      refine wc_region ?_
      refine reg_new (step_C tab_ok (fun K hk => hk)) rfl ?_
      refine reg_quiet rfl (step_C tab_ok (fun K hk => hk)) ?_
      refine reg_nil ?_
      refine seq_n ?_
      refine wc_seq ?_
      refine wc_seq ?_
      refine wc_region ?_
      refine reg_quiet rfl (load_box tab_ok rfl rfl rfl rfl) ?_
      refine reg_quiet rfl (call_r hC rfl rfl (arg_e arg_nil) (.inl rfl) (fun _ => rfl)) ?_
      refine reg_quiet rfl (step_C tab_ok (fun K hk => hk)) ?_
      refine reg_nil ?_
      refine seq_n ?_
      refine wc_seq ?_
      refine wc_region ?_
      refine reg_quiet rfl (step_C tab_ok (fun K hk => hk)) ?_
      refine reg_quiet rfl (step_C tab_ok (fun K hk => hk)) ?_
      refine reg_nil ?_
      refine seq_n ?_
      refine wc_false rfl rfl ?_
      refine wc_skip ?_
      refine seq_n ?_
      refine wc_seq ?_
      refine wc_seq_cut 19 (.bool (decide (i < 0) || decide (i ≥ (a.length : Int)))) _ rfl ?_ ?_
      · refine reg_quiet rfl (step_C tab_ok (fun K hk => hk)) ?_
        refine reg_quiet rfl (step_C tab_ok (fun K hk => hk)) ?_
        refine reg_quiet rfl (step_C tab_ok (fun K hk => hk)) ?_
        refine reg_split rfl rfl rfl (fun hb => ?_) (fun hb => ?_)
        refine reg_on rfl rfl (by assumption) ?_
        refine reg_quiet rfl (step_C tab_ok (fun K hk => hk)) ?_
        refine reg_on rfl rfl (by assumption) ?_
        refine reg_quiet rfl (step_C tab_ok (fun K hk => hk)) ?_
        refine reg_on rfl rfl (by assumption) ?_
        refine reg_quiet rfl (load_box tab_ok rfl rfl ⟨_, rfl, rfl⟩ rfl) ?_
        refine reg_on rfl rfl (by assumption) ?_
        refine reg_quiet rfl (len_arr tab_ok rfl rfl) ?_
        refine reg_on rfl rfl (by assumption) ?_
        refine reg_quiet rfl (step_C tab_ok (fun K hk => hk)) ?_
        refine reg_quiet rfl (pick_F tab_ok rfl (by assumption) rfl) ?_
        rotate_left
        refine reg_skip rfl rfl (by assumption) rfl rfl ?_
        refine reg_skip rfl rfl (by assumption) rfl rfl ?_
        refine reg_skip rfl rfl (by assumption) rfl rfl ?_
        refine reg_skip rfl rfl (by assumption) rfl rfl ?_
        refine reg_skip rfl rfl (by assumption) rfl rfl ?_
        refine reg_quiet rfl (pick_T tab_ok rfl (by assumption) rfl) ?_
        rotate_left
        all_goals refine reg_cut 9 rfl rfl rfl rfl rfl rfl rfl rfl rfl (AVLe.of_eq ?_)
        all_goals (first | rfl | (clear q5; simp_all; done) | (simp_all; done) | (simp_all; omega))
      refine wc_false rfl (by assumption) ?_
      refine wc_skip ?_
      refine seq_n ?_
      refine wc_seq ?_
      refine wc_region ?_
      refine reg_quiet rfl (step_C tab_ok (fun K hk => hk)) ?_
      refine reg_nil ?_
      refine seq_n ?_
      refine wc_ret ?_
      exact ⟨trivial, [], .of rfl rfl rfl rfl rfl ⟨⟨_, rfl, AVLe.of_eq rfl⟩, rfl, trivial⟩ trivial⟩
theorem at_get {a b : Blks} {i : Int} (h : atE a b i = 0) : okA a b = true ∧ 0 ≤ i ∧ i < a.length ∧ ∃ x, a[i.toNat]? = some x := by
  unfold atE at h
  cases h1 : okA a b with
  | false => rw [h1] at h; simp at h
  | true =>
    rw [h1, if_pos rfl] at h
    cases h2 : outI a i with
    | true => rw [h2] at h; simp at h
    | false =>
      rw [outI, Bool.or_eq_false_iff] at h2
      have e1 := of_decide_eq_false h2.1
      have e2 := of_decide_eq_false h2.2
      exact ⟨rfl, by omega, by omega, a[i.toNat]'(by omega), by simp [show i.toNat < a.length by omega]⟩
theorem okA_len {a b : Blks} (h : okA a b = true) : 0 < a.length ∧ a.length ≤ 4096 ∧ a.length = b.length := by
  simp only [okA, Bool.and_eq_true, Bool.not_eq_true', Bool.or_eq_false_iff, decide_eq_false_iff_not, decide_eq_true_eq] at h
  omega
theorem read_bad (a b : Blks) (i : Int) (h : atE a b i ≠ 0) : FnIs Try.prog 32 [.d (encA a b), .d (i6 i)] [] (tup2 (encBlock zeroBlock) (i6 1)) [] := by
  have hA := at_is a b i
  rw [show atE a b i = 1 by unfold atE at h ⊢; (repeat' split at h) <;> simp_all] at hA
  refine fnIs_of tab_ok Try.func32 rfl rfl rfl ?_
  refine wc_seq ?_
  refine wc_region ?_
  refine reg_new (step_C tab_ok (fun K hk => hk)) rfl ?_
  refine reg_new (step_C tab_ok (fun K hk => hk)) rfl ?_
  refine reg_quiet rfl (step_C tab_ok (fun K hk => hk)) ?_
  refine reg_nil ?_
  refine seq_n ?_
  refine wc_seq ?_
  refine wc_seq ?_
  refine wc_region ?_
  refine reg_quiet rfl (load_box tab_ok rfl rfl rfl rfl) ?_
  refine reg_quiet rfl (step_C tab_ok (fun K hk => hk)) ?_
  refine reg_quiet rfl (call_r hA rfl rfl (arg_e (arg_e arg_nil)) (.inl rfl) (fun _ => rfl)) ?_
  refine reg_quiet rfl (step_C tab_ok (fun K hk => hk)) ?_
  refine reg_nil ?_
  refine seq_n ?_
  refine wc_seq ?_
  refine wc_region ?_
  refine reg_quiet rfl (step_C tab_ok (fun K hk => hk)) ?_
  refine reg_quiet rfl (step_C tab_ok (fun K hk => hk)) ?_
  refine reg_nil ?_
  refine seq_n ?_
  refine wc_true rfl rfl ?_
  refine wc_seq ?_
  refine wc_region ?_
  refine reg_quiet rfl (build_array tab_ok rfl rfl rfl) ?_
  refine reg_quiet rfl (step_C tab_ok (fun K hk => hk)) ?_
  refine reg_store (store_row tab_ok rfl rfl rfl ⟨_, ⟨rfl, rfl, rfl⟩, rfl⟩ rfl) ?_
  refine reg_quiet rfl (step_C tab_ok (fun K hk => hk)) ?_
  refine reg_nil ?_
  refine seq_n ?_
  refine wc_ret ?_
  refine seq_r ?_
  exact ⟨trivial, _, rfl, [], .of rfl rfl rfl rfl rfl ⟨⟨_, rfl, AVLe.of_eq rfl⟩, rfl, trivial⟩ trivial⟩
theorem read_ok (a b : Blks) (i : Int) (x : List Int) (h : atE a b i = 0) (hx : a[i.toNat]? = some x) : FnIs Try.prog 32 [.d (encA a b), .d (i6 i)] [] (tup2 (encBlock x) (i6 0)) [] := by
  have hA := at_is a b i
  rw [h] at hA
  obtain ⟨-, h0, h1, -⟩ := at_get h
  refine fnIs_of tab_ok Try.func32 rfl rfl rfl ?_
  refine wc_seq ?_
  refine wc_region ?_
  refine reg_new (step_C tab_ok (fun K hk => hk)) rfl ?_
  refine reg_new (step_C tab_ok (fun K hk => hk)) rfl ?_
  refine reg_quiet rfl (step_C tab_ok (fun K hk => hk)) ?_
  refine reg_nil ?_
  refine seq_n ?_
  refine wc_seq ?_
  refine wc_seq ?_
  refine wc_region ?_
  refine reg_quiet rfl (load_box tab_ok rfl rfl rfl rfl) ?_
  refine reg_quiet rfl (step_C tab_ok (fun K hk => hk)) ?_
  refine reg_quiet rfl (call_r hA rfl rfl (arg_e (arg_e arg_nil)) (.inl rfl) (fun _ => rfl)) ?_
  refine reg_quiet rfl (step_C tab_ok (fun K hk => hk)) ?_
  refine reg_nil ?_
  refine seq_n ?_
  refine wc_seq ?_
  refine wc_region ?_
  refine reg_quiet rfl (step_C tab_ok (fun K hk => hk)) ?_
  refine reg_quiet rfl (step_C tab_ok (fun K hk => hk)) ?_
  refine reg_nil ?_
  refine seq_n ?_
  refine wc_false rfl rfl ?_
  refine wc_skip ?_
  refine seq_n ?_
  refine wc_seq ?_
  refine wc_region ?_
  refine reg_quiet rfl (step_C tab_ok (fun K hk => hk)) ?_
  refine reg_quiet rfl (load_box tab_ok rfl rfl ⟨_, rfl, rfl⟩ rfl) ?_
  refine reg_quiet rfl (step_C tab_ok (fun K hk => hk)) ?_
  refine reg_quiet rfl (index_arr tab_ok rfl rfl rfl rfl rfl (by omega) (by assumption)) ?_
  refine reg_quiet rfl (load_i tab_ok rfl rfl) ?_
  refine reg_store (store_row tab_ok rfl rfl rfl ⟨_, ⟨rfl, rfl, rfl⟩, rfl⟩ rfl) ?_
  refine reg_quiet rfl (step_C tab_ok (fun K hk => hk)) ?_
  refine reg_nil ?_
  refine seq_n ?_
  refine wc_ret ?_
  exact ⟨trivial, _, rfl, [], .of rfl rfl rfl rfl rfl ⟨⟨_, rfl, AVLe.of_eq rfl⟩, rfl, trivial⟩ trivial⟩
abbrev okR (a b : Blks) : AV := .tup (.acons (ownA 64 a.length (some a.length) 65 b.length (some b.length)) (.acons (.int .i64 0) .anil))
abbrev errA (e : Int) : AV := .tup (.acons (.d zeroA) (.acons (.int .i64 e) .anil))
theorem write_bad (a b : Blks) (i : Int) (y : List Int) (h : atE a b i ≠ 0) : FnIs Try.prog 33 [.d (encA a b), .d (i6 i), .d (encBlock y)] [] (errA 1) [] := by
  have hA := at_is a b i
  rw [show atE a b i = 1 by unfold atE at h ⊢; (repeat' split at h) <;> simp_all] at hA
  refine fnIs_of tab_ok Try.func33 rfl rfl rfl ?_
  refine wc_seq ?_
  refine wc_region ?_
  refine reg_new (step_C tab_ok (fun K hk => hk)) rfl ?_
  refine reg_new (step_C tab_ok (fun K hk => hk)) rfl ?_
  refine reg_new (step_C tab_ok (fun K hk => hk)) rfl ?_
  refine reg_quiet rfl (step_C tab_ok (fun K hk => hk)) ?_
  refine reg_nil ?_
  refine seq_n ?_
  refine wc_seq ?_
  refine wc_seq ?_
  refine wc_region ?_
  refine reg_quiet rfl (load_box tab_ok rfl rfl rfl rfl) ?_
  refine reg_quiet rfl (step_C tab_ok (fun K hk => hk)) ?_
  refine reg_quiet rfl (call_r hA rfl rfl (arg_e (arg_e arg_nil)) (.inl rfl) (fun _ => rfl)) ?_
  refine reg_quiet rfl (step_C tab_ok (fun K hk => hk)) ?_
  refine reg_nil ?_
  refine seq_n ?_
  refine wc_seq ?_
  refine wc_region ?_
  refine reg_quiet rfl (step_C tab_ok (fun K hk => hk)) ?_
  refine reg_quiet rfl (step_C tab_ok (fun K hk => hk)) ?_
  refine reg_nil ?_
  refine seq_n ?_
  refine wc_true rfl rfl ?_
  refine wc_seq ?_
  refine wc_region ?_
  refine reg_quiet rfl (build_struct tab_ok rfl rfl rfl rfl) ?_
  refine reg_quiet rfl (step_C tab_ok (fun K hk => hk)) ?_
  refine reg_store (store_row tab_ok rfl rfl rfl ⟨_, ⟨rfl, rfl, rfl⟩, rfl⟩ rfl) ?_
  refine reg_quiet rfl (step_C tab_ok (fun K hk => hk)) ?_
  refine reg_nil ?_
  refine seq_n ?_
  refine wc_ret ?_
  refine seq_r ?_
  exact ⟨trivial, _, rfl, [], .of rfl rfl rfl rfl rfl ⟨⟨_, rfl, AVLe.of_eq rfl⟩, rfl, trivial⟩ trivial⟩
theorem write_ok (a b : Blks) (i : Int) (x y : List Int) (h : atE a b i = 0) (hx : a[i.toNat]? = some x) : FnIs Try.prog 33 [.d (encA a b), .d (i6 i), .d (encBlock y)] [] (okR a b) [(64, rowB false (a.set i.toNat y)), (65, rowB false b)] := by
  have hA := at_is a b i
  rw [h] at hA
  obtain ⟨ho, h0, h1, -⟩ := at_get h
  obtain ⟨hla, hla2, hlb⟩ := okA_len ho
  have hlb2 : b.length ≤ 1048576 := by omega
  replace hlb : 0 < b.length := by omega
  replace hla2 : a.length ≤ 1048576 := by omega
  refine fnIs_of tab_ok Try.func33 rfl rfl rfl ?_
  refine wc_seq ?_
  refine wc_region ?_
  refine reg_new (step_C tab_ok (fun K hk => hk)) rfl ?_
  refine reg_new (step_C tab_ok (fun K hk => hk)) rfl ?_
  refine reg_new (step_C tab_ok (fun K hk => hk)) rfl ?_
  refine reg_quiet rfl (step_C tab_ok (fun K hk => hk)) ?_
  refine reg_nil ?_
  refine seq_n ?_
  refine wc_seq ?_
  refine wc_seq ?_
  refine wc_region ?_
  refine reg_quiet rfl (load_box tab_ok rfl rfl rfl rfl) ?_
  refine reg_quiet rfl (step_C tab_ok (fun K hk => hk)) ?_
  refine reg_quiet rfl (call_r hA rfl rfl (arg_e (arg_e arg_nil)) (.inl rfl) (fun _ => rfl)) ?_
  refine reg_quiet rfl (step_C tab_ok (fun K hk => hk)) ?_
  refine reg_nil ?_
  refine seq_n ?_
  refine wc_seq ?_
  refine wc_region ?_
  refine reg_quiet rfl (step_C tab_ok (fun K hk => hk)) ?_
  refine reg_quiet rfl (step_C tab_ok (fun K hk => hk)) ?_
  refine reg_nil ?_
  refine seq_n ?_
  refine wc_false rfl rfl ?_
  refine wc_skip ?_
  refine seq_n ?_
  refine wc_seq ?_
  refine wc_region ?_
  refine reg_quiet rfl (load_box tab_ok rfl rfl rfl rfl) ?_
  refine reg_new2 (call_new (value_is a b hla hla2 hlb hlb2) rfl rfl (arg_e arg_nil) (.inl rfl) rfl rfl) rfl ?_
  refine reg_new (step_C tab_ok (fun K hk => hk)) rfl ?_
  refine reg_store (store_row tab_ok rfl rfl rfl ⟨_, ⟨rfl, rfl, rfl⟩, rfl⟩ rfl) ?_
  refine reg_nil ?_
  refine seq_n ?_
  refine wc_seq ?_
  refine wc_region ?_
  refine reg_quiet rfl (step_C tab_ok (fun K hk => hk)) ?_
  refine reg_quiet rfl (load_box tab_ok rfl rfl rfl rfl) ?_
  refine reg_quiet rfl (step_C tab_ok (fun K hk => hk)) ?_
  refine reg_quiet rfl (load_box tab_ok rfl rfl rfl rfl) ?_
  refine reg_quiet rfl (index_own tab_ok rfl rfl rfl rfl rfl (by omega) (by omega)) ?_
  refine reg_store (store_row tab_ok rfl rfl rfl ⟨rfl, x, y, hx, ⟨rfl, rfl, rfl⟩, rfl⟩ rfl) ?_
  refine reg_nil ?_
  refine seq_n ?_
  refine wc_seq ?_
  refine wc_region ?_
  refine reg_quiet rfl (load_box tab_ok rfl rfl rfl rfl) ?_
  refine reg_store (store_row tab_ok rfl rfl rfl ⟨_, ⟨rfl, rfl, rfl⟩, rfl⟩ rfl) ?_
  refine reg_quiet rfl (step_C tab_ok (fun K hk => hk)) ?_
  refine reg_nil ?_
  refine seq_n ?_
  refine wc_ret ?_
  exact ⟨trivial, _, rfl, [(64, some 152), (65, some 153)], .of rfl rfl rfl rfl rfl ⟨⟨_, rfl, AVLe.of_eq rfl⟩, rfl, trivial⟩ ⟨⟨rfl, rfl, _, rfl, .refl _⟩, ⟨rfl, rfl, _, rfl, .refl _⟩, trivial⟩⟩
theorem flush_bad (a b : Blks) (h : okA a b = false) : FnIs Try.prog 28 [.d (encA a b)] [] (errA 1) [] := by
  have hC := check_is a b
  rw [h, if_neg (by simp)] at hC
  refine fnIs_of tab_ok Try.func28 rfl rfl rfl ?_
  refine wc_seq ?_
  refine wc_region ?_
  refine reg_new (step_C tab_ok (fun K hk => hk)) rfl ?_
  refine reg_new (step_C tab_ok (fun K hk => hk)) rfl ?_
  refine reg_quiet rfl (step_C tab_ok (fun K hk => hk)) ?_
  refine reg_nil ?_
  refine seq_n ?_
  refine wc_seq ?_
  refine wc_seq ?_
  refine wc_region ?_
  refine reg_quiet rfl (load_box tab_ok rfl rfl rfl rfl) ?_
  refine reg_quiet rfl (call_r hC rfl rfl (arg_e arg_nil) (.inl rfl) (fun _ => rfl)) ?_
  refine reg_quiet rfl (step_C tab_ok (fun K hk => hk)) ?_
  refine reg_nil ?_
  refine seq_n ?_
  refine wc_seq ?_
  refine wc_region ?_
  refine reg_quiet rfl (step_C tab_ok (fun K hk => hk)) ?_
  refine reg_quiet rfl (step_C tab_ok (fun K hk => hk)) ?_
  refine reg_nil ?_
  refine seq_n ?_
  refine wc_true rfl rfl ?_
  refine wc_seq ?_
  refine wc_region ?_
  refine reg_quiet rfl (build_struct tab_ok rfl rfl rfl rfl) ?_
  refine reg_quiet rfl (step_C tab_ok (fun K hk => hk)) ?_
  refine reg_store (store_row tab_ok rfl rfl rfl ⟨_, ⟨rfl, rfl, rfl⟩, rfl⟩ rfl) ?_
  refine reg_quiet rfl (step_C tab_ok (fun K hk => hk)) ?_
  refine reg_nil ?_
  refine seq_n ?_
  refine wc_ret ?_
  refine seq_r ?_
  exact ⟨trivial, _, rfl, [], .of rfl rfl rfl rfl rfl ⟨⟨_, rfl, AVLe.of_eq rfl⟩, rfl, trivial⟩ trivial⟩
theorem flush_ok (a b : Blks) (h : okA a b = true) : FnIs Try.prog 28 [.d (encA a b)] [] (okR a a) [(64, rowB false a), (65, rowB false a)] := by
  have hC := check_is a b
  rw [h, if_pos rfl] at hC
  obtain ⟨hla, hla2, hlb⟩ := okA_len h
  have hl0 : 0 < a.length := by omega
  have hl1 : a.length ≤ 1048576 := by omega
  refine fnIs_of tab_ok Try.func28 rfl rfl rfl ?_
  refine wc_seq ?_
  refine wc_region ?_
  refine reg_new (step_C tab_ok (fun K hk => hk)) rfl ?_
  refine reg_new (step_C tab_ok (fun K hk => hk)) rfl ?_
  refine reg_quiet rfl (step_C tab_ok (fun K hk => hk)) ?_
  refine reg_nil ?_
  refine seq_n ?_
  refine wc_seq ?_
  refine wc_seq ?_
  refine wc_region ?_
  refine reg_quiet rfl (load_box tab_ok rfl rfl rfl rfl) ?_
  refine reg_quiet rfl (call_r hC rfl rfl (arg_e arg_nil) (.inl rfl) (fun _ => rfl)) ?_
  refine reg_quiet rfl (step_C tab_ok (fun K hk => hk)) ?_
  refine reg_nil ?_
  refine seq_n ?_
  refine wc_seq ?_
  refine wc_region ?_
  refine reg_quiet rfl (step_C tab_ok (fun K hk => hk)) ?_
  refine reg_quiet rfl (step_C tab_ok (fun K hk => hk)) ?_
  refine reg_nil ?_
  refine seq_n ?_
  refine wc_false rfl rfl ?_
  refine wc_skip ?_
  refine seq_n ?_
  refine wc_seq ?_
  refine wc_draw (by kernel_rfl) ?_
  refine dreg_q [1] [64] rfl (step_C tab_ok (fun K hk => hk)) ?_
  refine dreg_q [11] [64] rfl (load_box tab_ok rfl rfl ⟨_, rfl, rfl⟩ rfl) ?_
  refine dreg_w [12] [] rfl (call_new (copied_is a hl0 hl1) rfl rfl (arg_e arg_nil) (.inl rfl) rfl rfl) ?_
  refine dreg_q [1] [64] rfl (step_C tab_ok (fun K hk => hk)) ?_
  refine dreg_q [14] [64] rfl (load_box tab_ok rfl rfl ⟨_, rfl, rfl⟩ rfl) ?_
  refine dreg_w [15] [] rfl (call_new (copied_is a hl0 hl1) rfl rfl (arg_e arg_nil) (.inl rfl) rfl rfl) ?_
  refine dreg_q [13, 16] [144, 168] rfl (build_struct tab_ok rfl rfl rfl rfl) ?_
  refine dreg_s [2, 17] [72, 144, 168] (store_row tab_ok rfl rfl rfl ⟨_, ⟨rfl, rfl, rfl⟩, rfl⟩ rfl) ?_
  refine dreg_q [] [] rfl (step_C tab_ok (fun K hk => hk)) ?_
  refine dreg_end (by kernel_rfl) ?_
  refine seq_n ?_
  refine wc_ret ?_
  exact ⟨trivial, _, rfl, [(64, some 144), (65, some 168)], .of rfl rfl rfl rfl rfl ⟨⟨_, rfl, AVLe.of_eq rfl⟩, rfl, trivial⟩ ⟨⟨rfl, rfl, _, rfl, .refl _⟩, ⟨rfl, rfl, _, rfl, .refl _⟩, trivial⟩⟩
theorem crash_bad (a b : Blks) (h : okA a b = false) : FnIs Try.prog 29 [.d (encA a b)] [] (errA 1) [] := by
  have hC := check_is a b
  rw [h, if_neg (by simp)] at hC
  refine fnIs_of tab_ok Try.func29 rfl rfl rfl ?_
  refine wc_seq ?_
  refine wc_region ?_
  refine reg_new (step_C tab_ok (fun K hk => hk)) rfl ?_
  refine reg_new (step_C tab_ok (fun K hk => hk)) rfl ?_
  refine reg_quiet rfl (step_C tab_ok (fun K hk => hk)) ?_
  refine reg_nil ?_
  refine seq_n ?_
  refine wc_seq ?_
  refine wc_seq ?_
  refine wc_region ?_
  refine reg_quiet rfl (load_box tab_ok rfl rfl rfl rfl) ?_
  refine reg_quiet rfl (call_r hC rfl rfl (arg_e arg_nil) (.inl rfl) (fun _ => rfl)) ?_
  refine reg_quiet rfl (step_C tab_ok (fun K hk => hk)) ?_
  refine reg_nil ?_
  refine seq_n ?_
  refine wc_seq ?_
  refine wc_region ?_
  refine reg_quiet rfl (step_C tab_ok (fun K hk => hk)) ?_
  refine reg_quiet rfl (step_C tab_ok (fun K hk => hk)) ?_
  refine reg_nil ?_
  refine seq_n ?_
  refine wc_true rfl rfl ?_
  refine wc_seq ?_
  refine wc_region ?_
  refine reg_quiet rfl (build_struct tab_ok rfl rfl rfl rfl) ?_
  refine reg_quiet rfl (step_C tab_ok (fun K hk => hk)) ?_
  refine reg_store (store_row tab_ok rfl rfl rfl ⟨_, ⟨rfl, rfl, rfl⟩, rfl⟩ rfl) ?_
  refine reg_quiet rfl (step_C tab_ok (fun K hk => hk)) ?_
  refine reg_nil ?_
  refine seq_n ?_
  refine wc_ret ?_
  refine seq_r ?_
  exact ⟨trivial, _, rfl, [], .of rfl rfl rfl rfl rfl ⟨⟨_, rfl, AVLe.of_eq rfl⟩, rfl, trivial⟩ trivial⟩
theorem crash_ok (a b : Blks) (h : okA a b = true) : FnIs Try.prog 29 [.d (encA a b)] [] (okR b b) [(64, rowB false b), (65, rowB false b)] := by
  have hC := check_is a b
  rw [h, if_pos rfl] at hC
  obtain ⟨hla, hla2, hlb⟩ := okA_len h
  have hl0 : 0 < b.length := by omega
  have hl1 : b.length ≤ 1048576 := by omega
  refine fnIs_of tab_ok Try.func29 rfl rfl rfl ?_
  refine wc_seq ?_
  refine wc_region ?_
  refine reg_new (step_C tab_ok (fun K hk => hk)) rfl ?_
  refine reg_new (step_C tab_ok (fun K hk => hk)) rfl ?_
  refine reg_quiet rfl (step_C tab_ok (fun K hk => hk)) ?_
  refine reg_nil ?_
  refine seq_n ?_
  refine wc_seq ?_
  refine wc_seq ?_
  refine wc_region ?_
  refine reg_quiet rfl (load_box tab_ok rfl rfl rfl rfl) ?_
  refine reg_quiet rfl (call_r hC rfl rfl (arg_e arg_nil) (.inl rfl) (fun _ => rfl)) ?_
  refine reg_quiet rfl (step_C tab_ok (fun K hk => hk)) ?_
  refine reg_nil ?_
  refine seq_n ?_
  refine wc_seq ?_
  refine wc_region ?_
  refine reg_quiet rfl (step_C tab_ok (fun K hk => hk)) ?_
  refine reg_quiet rfl (step_C tab_ok (fun K hk => hk)) ?_
  refine reg_nil ?_
  refine seq_n ?_
  refine wc_false rfl rfl ?_
  refine wc_skip ?_
  refine seq_n ?_
  refine wc_seq ?_
  refine wc_draw (by kernel_rfl) ?_
  refine dreg_q [1] [64] rfl (step_C tab_ok (fun K hk => hk)) ?_
  refine dreg_q [11] [64] rfl (load_box tab_ok rfl rfl ⟨_, rfl, rfl⟩ rfl) ?_
  refine dreg_w [12] [] rfl (call_new (copied_is b hl0 hl1) rfl rfl (arg_e arg_nil) (.inl rfl) rfl rfl) ?_
  refine dreg_q [1] [64] rfl (step_C tab_ok (fun K hk => hk)) ?_
  refine dreg_q [14] [64] rfl (load_box tab_ok rfl rfl ⟨_, rfl, rfl⟩ rfl) ?_
  refine dreg_w [15] [] rfl (call_new (copied_is b hl0 hl1) rfl rfl (arg_e arg_nil) (.inl rfl) rfl rfl) ?_
  refine dreg_q [13, 16] [144, 168] rfl (build_struct tab_ok rfl rfl rfl rfl) ?_
  refine dreg_s [2, 17] [72, 144, 168] (store_row tab_ok rfl rfl rfl ⟨_, ⟨rfl, rfl, rfl⟩, rfl⟩ rfl) ?_
  refine dreg_q [] [] rfl (step_C tab_ok (fun K hk => hk)) ?_
  refine dreg_end (by kernel_rfl) ?_
  refine seq_n ?_
  refine wc_ret ?_
  exact ⟨trivial, _, rfl, [(64, some 144), (65, some 168)], .of rfl rfl rfl rfl rfl ⟨⟨_, rfl, AVLe.of_eq rfl⟩, rfl, trivial⟩ ⟨⟨rfl, rfl, _, rfl, .refl _⟩, ⟨rfl, rfl, _, rfl, .refl _⟩, trivial⟩⟩
end Go.Proofs.Ytjpjchohpjbknaa

/- Arrays: what an operation does to an array that it may change. -/
namespace Go.Proofs.Ytjpjchohpjbknaa
open Go.Eng
set_option maxHeartbeats 2000000
attribute [local irreducible] WC RegS RegD SeqQ BlkQ ScoQ RegK CutK Sat SatN FnIs LoopQ StepIs OpIs
abbrev arrRows (a b : Blks) (c1 c2 : Option Nat) (e1 e2 : Bool) : List (Nat × Row) := [(0, .box 30 (ownA 1 a.length c1 2 b.length c2)), (1, rowB e1 a), (2, rowB e2 b)]
theorem step1_is (a b : Blks) (c1 c2 : Option Nat) (e1 e2 : Bool) (o : Oper) (x : List Int) (h0 : 0 ≤ o.index) (h1 : o.index < a.length) (hx : a[o.index.toNat]? = some x) : FnIs Try.prog 92 [.ptr 0 [], .d (encOp o)] (arrRows a b c1 c2 e1 e2) (.d (encBlock x)) (arrRows a b c1 c2 e1 e2) := by
  refine fnIs_of tab_ok Try.func92 rfl rfl rfl ?_
  refine wc_seq ?_
  refine wc_region ?_
  refine reg_new (step_C tab_ok (fun K hk => hk)) rfl ?_
  refine reg_new (step_C tab_ok (fun K hk => hk)) rfl ?_
  refine reg_nil ?_
  refine seq_n ?_
  refine wc_seq ?_
  refine wc_draw (by kernel_rfl) ?_
  refine dreg_q [0] [0, 1, 2] rfl (step_C tab_ok (fun K hk => hk)) ?_
  refine dreg_q [5] [0, 1, 2] rfl (step_C tab_ok (fun K hk => hk)) ?_
  refine dreg_q [6] [0, 1, 2] rfl (step_C tab_ok (fun K hk => hk)) ?_
  refine dreg_q [7] [0, 1, 2] rfl (load_box tab_ok rfl rfl rfl rfl) ?_
  refine dreg_q [3] [64] rfl (step_C tab_ok (fun K hk => hk)) ?_
  refine dreg_q [9] [64] rfl (load_box tab_ok rfl rfl ⟨_, rfl, rfl⟩ rfl) ?_
  refine dreg_q [8, 10] [1] rfl (index_own tab_ok rfl rfl rfl rfl rfl (by omega) (by omega)) ?_
  refine dreg_q [11] [1] rfl (load_row (v := .d (encBlock x)) tab_ok rfl rfl ⟨rfl, x, hx, encBlock x, rfl, rfl⟩ rfl) ?_
  refine dreg_s [4, 12] [72] (store_row tab_ok rfl rfl rfl ⟨_, ⟨rfl, rfl, rfl⟩, rfl⟩ rfl) ?_
  refine dreg_end (by kernel_rfl) ?_
  refine seq_n ?_
  refine wc_ret ?_
  exact ⟨trivial, _, rfl, [], .of rfl rfl rfl rfl rfl ⟨⟨_, rfl, AVLe.of_eq rfl⟩, rfl, trivial⟩ ⟨⟨rfl, rfl, _, rfl, .refl _⟩, ⟨rfl, rfl, _, rfl, .refl _⟩, ⟨rfl, rfl, _, rfl, .refl _⟩, trivial⟩⟩
theorem step2_is (a b : Blks) (c1 c2 : Option Nat) (e1 e2 : Bool) (o : Oper) (x : List Int) (h0 : 0 ≤ o.index) (h1 : o.index < a.length) (hx : a[o.index.toNat]? = some x) (hd : o.data.length = 32) : FnIs Try.prog 93 [.ptr 0 [], .d (encOp o)] (arrRows a b c1 c2 e1 e2) (.d (encBlock zeroBlock)) [(0, .box 30 (ownA 1 a.length c1 2 b.length c2)), (1, rowB e1 (a.set o.index.toNat o.data)), (2, rowB e2 b)] := by
  refine fnIs_of tab_ok Try.func93 rfl rfl rfl ?_
  refine wc_seq ?_
  refine wc_region ?_
  refine reg_new (step_C tab_ok (fun K hk => hk)) rfl ?_
  refine reg_new (step_C tab_ok (fun K hk => hk)) rfl ?_
  refine reg_nil ?_
  refine seq_n ?_
  refine wc_seq ?_
  refine wc_draw (by kernel_rfl) ?_
  refine dreg_q [0] [0, 1, 2] rfl (step_C tab_ok (fun K hk => hk)) ?_
  refine dreg_q [5] [0, 1, 2] rfl (step_C tab_ok (fun K hk => hk)) ?_
  refine dreg_q [6] [0, 1, 2] rfl (step_C tab_ok (fun K hk => hk)) ?_
  refine dreg_q [7] [0, 1, 2] rfl (load_box tab_ok rfl rfl rfl rfl) ?_
  refine dreg_q [3] [64] rfl (step_C tab_ok (fun K hk => hk)) ?_
  refine dreg_q [9] [64] rfl (load_box tab_ok rfl rfl ⟨_, rfl, rfl⟩ rfl) ?_
  refine dreg_q [8, 10] [1] rfl (index_own tab_ok rfl rfl rfl rfl rfl (by omega) (by omega)) ?_
  refine dreg_q [11] [1] rfl (slice_ptr tab_ok rfl rfl rfl) ?_
  refine dreg_q [3] [64] rfl (step_C tab_ok (fun K hk => hk)) ?_
  refine dreg_q [13] [64] rfl (load_box tab_ok rfl rfl ⟨_, rfl, rfl⟩ rfl) ?_
  refine dreg_w [12, 14] [1] rfl (copy_asl (enc := encU8) (s := 1) (ys := o.data) tab_ok rfl rfl rfl rfl rfl rfl rfl hd rfl ⟨rfl, x, o.data, hx, ⟨rfl, rfl, rfl⟩, rfl⟩) ?_
  refine dreg_end (by kernel_rfl) ?_
  refine seq_n ?_
  refine wc_seq ?_
  refine wc_region ?_
  refine reg_quiet rfl (build_array tab_ok rfl rfl rfl) ?_
  refine reg_store (store_row tab_ok rfl rfl rfl ⟨_, ⟨rfl, rfl, rfl⟩, rfl⟩ rfl) ?_
  refine reg_nil ?_
  refine seq_n ?_
  refine wc_ret ?_
  exact ⟨trivial, _, rfl, [], .of rfl rfl rfl rfl rfl ⟨⟨_, rfl, AVLe.of_eq rfl⟩, rfl, trivial⟩ ⟨⟨rfl, rfl, _, rfl, .refl _⟩, ⟨rfl, rfl, _, rfl, .refl _⟩, ⟨rfl, rfl, _, rfl, .refl _⟩, trivial⟩⟩
theorem step3_is (a b : Blks) (c1 c2 : Option Nat) (e1 e2 : Bool) (o : Oper) (hab : a.length = b.length) (hp : 0 < b.length) : FnIs Try.prog 94 [.ptr 0 [], .d (encOp o)] (arrRows a b c1 c2 e1 e2) (.d (encBlock zeroBlock)) [(0, .box 30 (ownA 1 a.length c1 2 b.length c2)), (1, rowB e1 a), (2, rowB e2 a)] := by
  have hpa : 0 < a.length := by omega
  refine fnIs_of tab_ok Try.func94 rfl rfl rfl ?_
  refine wc_seq ?_
  refine wc_region ?_
  refine reg_new (step_C tab_ok (fun K hk => hk)) rfl ?_
  refine reg_new (step_C tab_ok (fun K hk => hk)) rfl ?_
  refine reg_nil ?_
  refine seq_n ?_
  refine wc_seq ?_
  refine wc_draw (by kernel_rfl) ?_
  refine dreg_q [0] [0, 1, 2] rfl (step_C tab_ok (fun K hk => hk)) ?_
  refine dreg_q [5] [0, 1, 2] rfl (step_C tab_ok (fun K hk => hk)) ?_
  refine dreg_q [6] [0, 1, 2] rfl (step_C tab_ok (fun K hk => hk)) ?_
  refine dreg_q [7] [0, 1, 2] rfl (load_box tab_ok rfl rfl rfl rfl) ?_
  refine dreg_q [0] [0, 1, 2] rfl (step_C tab_ok (fun K hk => hk)) ?_
  refine dreg_q [9] [0, 1, 2] rfl (step_C tab_ok (fun K hk => hk)) ?_
  refine dreg_q [10] [0, 1, 2] rfl (step_C tab_ok (fun K hk => hk)) ?_
  refine dreg_q [11] [0, 1, 2] rfl (load_box tab_ok rfl rfl rfl rfl) ?_
  refine dreg_w [8, 12] [2, 1] rfl (copy_full (s := 32) tab_ok rfl rfl rfl rfl rfl rfl rfl hab hp (src_own rfl rfl rfl hpa)) ?_
  refine dreg_end (by kernel_rfl) ?_
  refine seq_n ?_
  refine wc_seq ?_
  refine wc_region ?_
  refine reg_quiet rfl (build_array tab_ok rfl rfl rfl) ?_
  refine reg_store (store_row tab_ok rfl rfl rfl ⟨_, ⟨rfl, rfl, rfl⟩, rfl⟩ rfl) ?_
  refine reg_nil ?_
  refine seq_n ?_
  refine wc_ret ?_
  exact ⟨trivial, _, rfl, [], .of rfl rfl rfl rfl rfl ⟨⟨_, rfl, AVLe.of_eq rfl⟩, rfl, trivial⟩ ⟨⟨rfl, rfl, _, rfl, .refl _⟩, ⟨rfl, rfl, _, rfl, .refl _⟩, ⟨rfl, rfl, _, rfl, .refl _⟩, trivial⟩⟩
abbrev stepV (k : Nat) : AV := .acons (.fn (.func k) .anil .anil) (.d .nil)
abbrev stepsV : AV := .acons (.d (.cons (.sc .nilFunc) .nil)) (.acons (stepV 92) (.acons (stepV 93) (.acons (stepV 94) (.d .nil))))
theorem steps_is : FnIs Try.prog 73 [] [] stepsV [] := by
  refine fnIs_of tab_ok Try.func73 rfl rfl rfl ?_
  refine wc_seq ?_
  refine wc_region ?_
  refine reg_new (step_C tab_ok (fun K hk => hk)) rfl ?_
  refine reg_nil ?_
  refine seq_n ?_
  refine wc_seq ?_
  refine wc_region ?_
  refine reg_quiet rfl (build_struct tab_ok rfl rfl rfl rfl) ?_
  refine reg_quiet rfl (build_struct tab_ok rfl rfl rfl rfl) ?_
  refine reg_quiet rfl (build_struct tab_ok rfl rfl rfl rfl) ?_
  refine reg_quiet rfl (build_arr_av tab_ok rfl rfl rfl rfl rfl rfl rfl) ?_
  refine reg_store (store_row tab_ok rfl rfl rfl ⟨_, ⟨rfl, rfl, rfl⟩, rfl⟩ rfl) ?_
  refine reg_nil ?_
  refine seq_n ?_
  refine wc_ret ?_
  exact ⟨trivial, _, rfl, [], .of rfl rfl rfl rfl rfl ⟨⟨_, rfl, AVLe.of_eq rfl⟩, rfl, trivial⟩ trivial⟩
end Go.Proofs.Ytjpjchohpjbknaa

/- Arrays: do, Do. -/
namespace Go.Proofs.Ytjpjchohpjbknaa
open Go.Eng
set_option maxHeartbeats 2000000
attribute [local irreducible] WC RegS RegD SeqQ BlkQ ScoQ RegK CutK Sat SatN FnIs LoopQ StepIs OpIs
def doV (a : Blks) (o : Oper) : List Int := if badOp a.length o = true then zeroBlock else if o.kind = 1 then (a[o.index.toNat]?).getD zeroBlock else zeroBlock
def doE (a : Blks) (o : Oper) : Int := if badOp a.length o = true then 1 else 0
def doA (a : Blks) (o : Oper) : Blks := if badOp a.length o = true then a else if o.kind = 2 then a.set o.index.toNat o.data else a
def doB (a b : Blks) (o : Oper) : Blks := if badOp a.length o = true then b else if o.kind = 3 then a else b
abbrev doR (a : Blks) (o : Oper) : Res := ⟨doV a o, doE a o⟩
theorem doA_len (a : Blks) (o : Oper) : (doA a o).length = a.length := by unfold doA; (repeat' split) <;> simp
theorem doB_len (a b : Blks) (o : Oper) (h : a.length = b.length) : (doB a b o).length = b.length := by unfold doB; (repeat' split) <;> simp [h]
/-- A good operation. -/
theorem good_op {n : Int} {o : Oper} (h : badOp n o = false) : (o.kind = 1 ∧ 0 ≤ o.index ∧ o.index < n) ∨ (o.kind = 2 ∧ 0 ≤ o.index ∧ o.index < n ∧ o.data.length = 32) ∨ o.kind = 3 := by
  unfold badOp at h
  by_cases h3 : o.kind = 3
  · exact .inr (.inr h3)
  rw [if_neg h3] at h
  by_cases h1 : o.kind = 1
  · rw [if_pos h1, Bool.or_eq_false_iff] at h
    have e1 := of_decide_eq_false h.1
    have e2 := of_decide_eq_false h.2
    exact .inl ⟨h1, by omega, by omega⟩
  rw [if_neg h1] at h
  by_cases h2 : o.kind = 2
  · rw [if_pos h2, Bool.or_eq_false_iff, Bool.or_eq_false_iff] at h
    have e0 : ((o.data.length : Int) = 32) := by simpa using h.1
    have e1 := of_decide_eq_false h.2.1
    have e2 := of_decide_eq_false h.2.2
    exact .inr (.inl ⟨h2, by omega, by omega, by omega⟩)
  rw [if_neg h2] at h
  cases h
theorem do_is (a b : Blks) (c1 c2 : Option Nat) (e1 e2 : Bool) (o : Oper) (hab : a.length = b.length) (hp : 0 < b.length) : FnIs Try.prog 54 [.ptr 0 [], .d (encOp o)] (arrRows a b c1 c2 e1 e2) (.d (encRes (doR a o))) [(0, .box 30 (ownA 1 a.length c1 2 b.length c2)), (1, rowB e1 (doA a o)), (2, rowB e2 (doB a b o))] := by
  have hB := bad_is a.length o
  cases hb : badOp a.length o with
  | true =>
    rw [hb] at hB
    have v1 : doR a o = ⟨zeroBlock, 1⟩ := by simp [doR, doV, doE, hb]
    have v2 : doA a o = a := by simp [doA, hb]
    have v3 : doB a b o = b := by simp [doB, hb]
    rw [v1, v2, v3]
    refine fnIs_of tab_ok Try.func54 rfl rfl rfl ?_
    refine wc_seq ?_
    refine wc_region ?_
    refine reg_new (step_C tab_ok (fun K hk => hk)) rfl ?_
    refine reg_new (step_C tab_ok (fun K hk => hk)) rfl ?_
    refine reg_nil ?_
    refine seq_n ?_
    refine wc_seq ?_
    refine wc_seq ?_
    refine wc_draw (by kernel_rfl) ?_
    refine dreg_q [0] [0, 1, 2] rfl (step_C tab_ok (fun K hk => hk)) ?_
    refine dreg_q [5] [0, 1, 2] rfl (step_C tab_ok (fun K hk => hk)) ?_
    refine dreg_q [6] [0, 1, 2] rfl (step_C tab_ok (fun K hk => hk)) ?_
    refine dreg_q [7] [0, 1, 2] rfl (load_box tab_ok rfl rfl rfl rfl) ?_
    refine dreg_q [8] [1] rfl (len_own tab_ok rfl rfl) ?_
    refine dreg_q [3] [64] rfl (load_box tab_ok rfl rfl rfl rfl) ?_
    refine dreg_q [9, 10] [] rfl (call_r hB rfl rfl (arg_e (arg_e arg_nil)) (.inl rfl) (fun _ => rfl)) ?_
    refine dreg_end (by kernel_rfl) ?_
    refine seq_n ?_
    refine wc_true rfl rfl ?_
    refine wc_seq ?_
    refine wc_region ?_
    refine reg_quiet rfl (build_struct tab_ok rfl rfl rfl rfl) ?_
    refine reg_store (store_row tab_ok rfl rfl rfl ⟨_, ⟨rfl, rfl, rfl⟩, rfl⟩ rfl) ?_
    refine reg_nil ?_
    refine seq_n ?_
    refine wc_ret ?_
    refine seq_r ?_
    exact ⟨trivial, _, rfl, [], .of rfl rfl rfl rfl rfl ⟨⟨_, rfl, AVLe.of_eq rfl⟩, rfl, trivial⟩ ⟨⟨rfl, rfl, _, rfl, .refl _⟩, ⟨rfl, rfl, _, rfl, .refl _⟩, ⟨rfl, rfl, _, rfl, .refl _⟩, trivial⟩⟩
  | false =>
    rw [hb] at hB
    obtain ⟨k, idx, data⟩ := o
    rcases good_op hb with ⟨hk, h0, h1⟩ | ⟨hk, h0, h1, hd⟩ | hk
    · simp only at hk h0 h1
      subst hk
      obtain ⟨x, hx⟩ : ∃ x, a[idx.toNat]? = some x := ⟨_, List.getElem?_eq_getElem (by omega)⟩
      have hS := step1_is a b c1 c2 e1 e2 ⟨1, idx, data⟩ x h0 h1 hx
      have v1 : doR a ⟨1, idx, data⟩ = ⟨x, 0⟩ := by simp [doR, doV, doE, hb, hx]
      have v2 : doA a ⟨1, idx, data⟩ = a := by simp [doA, hb]
      have v3 : doB a b ⟨1, idx, data⟩ = b := by simp [doB, hb]
      rw [v1, v2, v3]
      refine fnIs_of tab_ok Try.func54 rfl rfl rfl ?_
      refine wc_seq ?_
      refine wc_region ?_
      refine reg_new (step_C tab_ok (fun K hk => hk)) rfl ?_
      refine reg_new (step_C tab_ok (fun K hk => hk)) rfl ?_
      refine reg_nil ?_
      refine seq_n ?_
      refine wc_seq ?_
      refine wc_seq ?_
      refine wc_draw (by kernel_rfl) ?_
      refine dreg_q [0] [0, 1, 2] rfl (step_C tab_ok (fun K hk => hk)) ?_
      refine dreg_q [5] [0, 1, 2] rfl (step_C tab_ok (fun K hk => hk)) ?_
      refine dreg_q [6] [0, 1, 2] rfl (step_C tab_ok (fun K hk => hk)) ?_
      refine dreg_q [7] [0, 1, 2] rfl (load_box tab_ok rfl rfl rfl rfl) ?_
      refine dreg_q [8] [1] rfl (len_own tab_ok rfl rfl) ?_
      refine dreg_q [3] [64] rfl (load_box tab_ok rfl rfl rfl rfl) ?_
      refine dreg_q [9, 10] [] rfl (call_r hB rfl rfl (arg_e (arg_e arg_nil)) (.inl rfl) (fun _ => rfl)) ?_
      refine dreg_end (by kernel_rfl) ?_
      refine seq_n ?_
      refine wc_false rfl rfl ?_
      refine wc_skip ?_
      refine seq_n ?_
      refine wc_seq ?_
      refine wc_draw (by kernel_rfl) ?_
      refine dreg_q [] [] rfl (call_r steps_is rfl rfl arg_nil (.inl rfl) (fun _ => rfl)) ?_
      refine dreg_q [3] [64] rfl (step_C tab_ok (fun K hk => hk)) ?_
      refine dreg_q [14] [64] rfl (load_box tab_ok rfl rfl ⟨_, rfl, rfl⟩ rfl) ?_
      refine dreg_q [13, 15] [] rfl (index_av (k := .u8) (m := 1) tab_ok rfl rfl rfl rfl (by decide) (by decide) rfl rfl rfl) ?_
      refine dreg_q [16] [] rfl (step_C tab_ok (fun K hk => hk)) ?_
      refine dreg_q [0] [0, 1, 2] rfl (step_C tab_ok (fun K hk => hk)) ?_
      refine dreg_q [3] [64] rfl (load_box tab_ok rfl rfl rfl rfl) ?_
      refine dreg_step rfl (call_h [(0, some 0), (1, some 1), (2, some 2)] hS rfl rfl rfl (arg_ptr rfl rfl (arg_e arg_nil)) ⟨⟨rfl, rfl, _, _, rfl, rfl, .refl _⟩, ⟨rfl, rfl, _, _, rfl, rfl, .refl _⟩, ⟨rfl, rfl, _, _, rfl, rfl, .refl _⟩, trivial⟩ rfl rfl (.inl rfl) rfl rfl) rfl rfl ?_
      refine dreg_q [20] [] rfl (build_struct tab_ok rfl rfl rfl rfl) ?_
      refine dreg_s [4, 21] [72] (store_row tab_ok rfl rfl rfl ⟨_, ⟨rfl, rfl, rfl⟩, rfl⟩ rfl) ?_
      refine dreg_end (by kernel_rfl) ?_
      refine seq_n ?_
      refine wc_ret ?_
      exact ⟨trivial, _, rfl, [], .of rfl rfl rfl rfl rfl ⟨⟨_, rfl, AVLe.of_eq rfl⟩, rfl, trivial⟩ ⟨⟨rfl, rfl, _, rfl, .refl _⟩, ⟨rfl, rfl, _, rfl, .refl _⟩, ⟨rfl, rfl, _, rfl, .refl _⟩, trivial⟩⟩
    · simp only at hk h0 h1 hd
      subst hk
      obtain ⟨x, hx⟩ : ∃ x, a[idx.toNat]? = some x := ⟨_, List.getElem?_eq_getElem (by omega)⟩
      have hS := step2_is a b c1 c2 e1 e2 ⟨2, idx, data⟩ x h0 h1 hx hd
      have v1 : doR a ⟨2, idx, data⟩ = ⟨zeroBlock, 0⟩ := by simp [doR, doV, doE, hb]
      have v2 : doA a ⟨2, idx, data⟩ = a.set idx.toNat data := by simp [doA, hb]
      have v3 : doB a b ⟨2, idx, data⟩ = b := by simp [doB, hb]
      rw [v1, v2, v3]
      refine fnIs_of tab_ok Try.func54 rfl rfl rfl ?_
      refine wc_seq ?_
      refine wc_region ?_
      refine reg_new (step_C tab_ok (fun K hk => hk)) rfl ?_
      refine reg_new (step_C tab_ok (fun K hk => hk)) rfl ?_
      refine reg_nil ?_
      refine seq_n ?_
      refine wc_seq ?_
      refine wc_seq ?_
      refine wc_draw (by kernel_rfl) ?_
      refine dreg_q [0] [0, 1, 2] rfl (step_C tab_ok (fun K hk => hk)) ?_
      refine dreg_q [5] [0, 1, 2] rfl (step_C tab_ok (fun K hk => hk)) ?_
      refine dreg_q [6] [0, 1, 2] rfl (step_C tab_ok (fun K hk => hk)) ?_
      refine dreg_q [7] [0, 1, 2] rfl (load_box tab_ok rfl rfl rfl rfl) ?_
      refine dreg_q [8] [1] rfl (len_own tab_ok rfl rfl) ?_
      refine dreg_q [3] [64] rfl (load_box tab_ok rfl rfl rfl rfl) ?_
      refine dreg_q [9, 10] [] rfl (call_r hB rfl rfl (arg_e (arg_e arg_nil)) (.inl rfl) (fun _ => rfl)) ?_
      refine dreg_end (by kernel_rfl) ?_
      refine seq_n ?_
      refine wc_false rfl rfl ?_
      refine wc_skip ?_
      refine seq_n ?_
      refine wc_seq ?_
      refine wc_draw (by kernel_rfl) ?_
      refine dreg_q [] [] rfl (call_r steps_is rfl rfl arg_nil (.inl rfl) (fun _ => rfl)) ?_
      refine dreg_q [3] [64] rfl (step_C tab_ok (fun K hk => hk)) ?_
      refine dreg_q [14] [64] rfl (load_box tab_ok rfl rfl ⟨_, rfl, rfl⟩ rfl) ?_
      refine dreg_q [13, 15] [] rfl (index_av (k := .u8) (m := 2) tab_ok rfl rfl rfl rfl (by decide) (by decide) rfl rfl rfl) ?_
      refine dreg_q [16] [] rfl (step_C tab_ok (fun K hk => hk)) ?_
      refine dreg_q [0] [0, 1, 2] rfl (step_C tab_ok (fun K hk => hk)) ?_
      refine dreg_q [3] [64] rfl (load_box tab_ok rfl rfl rfl rfl) ?_
      refine dreg_step rfl (call_h [(0, some 0), (1, some 1), (2, some 2)] hS rfl rfl rfl (arg_ptr rfl rfl (arg_e arg_nil)) ⟨⟨rfl, rfl, _, _, rfl, rfl, .refl _⟩, ⟨rfl, rfl, _, _, rfl, rfl, .refl _⟩, ⟨rfl, rfl, _, _, rfl, rfl, .refl _⟩, trivial⟩ rfl rfl (.inl rfl) rfl rfl) rfl rfl ?_
      refine dreg_q [20] [] rfl (build_struct tab_ok rfl rfl rfl rfl) ?_
      refine dreg_s [4, 21] [72] (store_row tab_ok rfl rfl rfl ⟨_, ⟨rfl, rfl, rfl⟩, rfl⟩ rfl) ?_
      refine dreg_end (by kernel_rfl) ?_
      refine seq_n ?_
      refine wc_ret ?_
      exact ⟨trivial, _, rfl, [], .of rfl rfl rfl rfl rfl ⟨⟨_, rfl, AVLe.of_eq rfl⟩, rfl, trivial⟩ ⟨⟨rfl, rfl, _, rfl, .refl _⟩, ⟨rfl, rfl, _, rfl, .refl _⟩, ⟨rfl, rfl, _, rfl, .refl _⟩, trivial⟩⟩
    · simp only at hk
      subst hk
      have hS := step3_is a b c1 c2 e1 e2 ⟨3, idx, data⟩ hab hp
      have v1 : doR a ⟨3, idx, data⟩ = ⟨zeroBlock, 0⟩ := by simp [doR, doV, doE, hb]
      have v2 : doA a ⟨3, idx, data⟩ = a := by simp [doA, hb]
      have v3 : doB a b ⟨3, idx, data⟩ = a := by simp [doB, hb]
      rw [v1, v2, v3]
      refine fnIs_of tab_ok Try.func54 rfl rfl rfl ?_
      refine wc_seq ?_
      refine wc_region ?_
      refine reg_new (step_C tab_ok (fun K hk => hk)) rfl ?_
      refine reg_new (step_C tab_ok (fun K hk => hk)) rfl ?_
      refine reg_nil ?_
      refine seq_n ?_
      refine wc_seq ?_
      refine wc_seq ?_
      refine wc_draw (by kernel_rfl) ?_
      refine dreg_q [0] [0, 1, 2] rfl (step_C tab_ok (fun K hk => hk)) ?_
      refine dreg_q [5] [0, 1, 2] rfl (step_C tab_ok (fun K hk => hk)) ?_
      refine dreg_q [6] [0, 1, 2] rfl (step_C tab_ok (fun K hk => hk)) ?_
      refine dreg_q [7] [0, 1, 2] rfl (load_box tab_ok rfl rfl rfl rfl) ?_
      refine dreg_q [8] [1] rfl (len_own tab_ok rfl rfl) ?_
      refine dreg_q [3] [64] rfl (load_box tab_ok rfl rfl rfl rfl) ?_
      refine dreg_q [9, 10] [] rfl (call_r hB rfl rfl (arg_e (arg_e arg_nil)) (.inl rfl) (fun _ => rfl)) ?_
      refine dreg_end (by kernel_rfl) ?_
      refine seq_n ?_
      refine wc_false rfl rfl ?_
      refine wc_skip ?_
      refine seq_n ?_
      refine wc_seq ?_
      refine wc_draw (by kernel_rfl) ?_
      refine dreg_q [] [] rfl (call_r steps_is rfl rfl arg_nil (.inl rfl) (fun _ => rfl)) ?_
      refine dreg_q [3] [64] rfl (step_C tab_ok (fun K hk => hk)) ?_
      refine dreg_q [14] [64] rfl (load_box tab_ok rfl rfl ⟨_, rfl, rfl⟩ rfl) ?_
      refine dreg_q [13, 15] [] rfl (index_av (k := .u8) (m := 3) tab_ok rfl rfl rfl rfl (by decide) (by decide) rfl rfl rfl) ?_
      refine dreg_q [16] [] rfl (step_C tab_ok (fun K hk => hk)) ?_
      refine dreg_q [0] [0, 1, 2] rfl (step_C tab_ok (fun K hk => hk)) ?_
      refine dreg_q [3] [64] rfl (load_box tab_ok rfl rfl rfl rfl) ?_
      refine dreg_step rfl (call_h [(0, some 0), (1, some 1), (2, some 2)] hS rfl rfl rfl (arg_ptr rfl rfl (arg_e arg_nil)) ⟨⟨rfl, rfl, _, _, rfl, rfl, .refl _⟩, ⟨rfl, rfl, _, _, rfl, rfl, .refl _⟩, ⟨rfl, rfl, _, _, rfl, rfl, .refl _⟩, trivial⟩ rfl rfl (.inl rfl) rfl rfl) rfl rfl ?_
      refine dreg_q [20] [] rfl (build_struct tab_ok rfl rfl rfl rfl) ?_
      refine dreg_s [4, 21] [72] (store_row tab_ok rfl rfl rfl ⟨_, ⟨rfl, rfl, rfl⟩, rfl⟩ rfl) ?_
      refine dreg_end (by kernel_rfl) ?_
      refine seq_n ?_
      refine wc_ret ?_
      exact ⟨trivial, _, rfl, [], .of rfl rfl rfl rfl rfl ⟨⟨_, rfl, AVLe.of_eq rfl⟩, rfl, trivial⟩ ⟨⟨rfl, rfl, _, rfl, .refl _⟩, ⟨rfl, rfl, _, rfl, .refl _⟩, ⟨rfl, rfl, _, rfl, .refl _⟩, trivial⟩⟩
abbrev tup3 (x y z : AV) : AV := .tup (.acons x (.acons y (.acons z .anil)))
abbrev errD (e : Int) : AV := tup3 (.d zeroA) (.d (encRes ⟨zeroBlock, 0⟩)) (.int .i64 e)
theorem Do_bad (a b : Blks) (o : Oper) (h : okA a b = false) : FnIs Try.prog 20 [.d (encA a b), .d (encOp o)] [] (errD 1) [] := by
  have hC := check_is a b
  rw [h, if_neg (by simp)] at hC
  refine fnIs_of tab_ok Try.func20 rfl rfl rfl ?_
  refine wc_seq ?_
  refine wc_region ?_
  refine reg_new (step_C tab_ok (fun K hk => hk)) rfl ?_
  refine reg_new (step_C tab_ok (fun K hk => hk)) rfl ?_
  refine reg_new (step_C tab_ok (fun K hk => hk)) rfl ?_
  refine reg_new (step_C tab_ok (fun K hk => hk)) rfl ?_
  refine reg_quiet rfl (step_C tab_ok (fun K hk => hk)) ?_
  refine reg_nil ?_
  refine seq_n ?_
  refine wc_seq ?_
  refine wc_seq ?_
  refine wc_region ?_
  refine reg_quiet rfl (load_box tab_ok rfl rfl rfl rfl) ?_
  refine reg_quiet rfl (call_r hC rfl rfl (arg_e arg_nil) (.inl rfl) (fun _ => rfl)) ?_
  refine reg_quiet rfl (step_C tab_ok (fun K hk => hk)) ?_
  refine reg_nil ?_
  refine seq_n ?_
  refine wc_seq ?_
  refine wc_region ?_
  refine reg_quiet rfl (step_C tab_ok (fun K hk => hk)) ?_
  refine reg_quiet rfl (step_C tab_ok (fun K hk => hk)) ?_
  refine reg_nil ?_
  refine seq_n ?_
  refine wc_true rfl rfl ?_
  refine wc_seq ?_
  refine wc_region ?_
  refine reg_quiet rfl (build_struct tab_ok rfl rfl rfl rfl) ?_
  refine reg_quiet rfl (build_struct tab_ok rfl rfl rfl rfl) ?_
  refine reg_quiet rfl (step_C tab_ok (fun K hk => hk)) ?_
  refine reg_store (store_row tab_ok rfl rfl rfl ⟨_, ⟨rfl, rfl, rfl⟩, rfl⟩ rfl) ?_
  refine reg_store (store_row tab_ok rfl rfl rfl ⟨_, ⟨rfl, rfl, rfl⟩, rfl⟩ rfl) ?_
  refine reg_quiet rfl (step_C tab_ok (fun K hk => hk)) ?_
  refine reg_nil ?_
  refine seq_n ?_
  refine wc_ret ?_
  refine seq_r ?_
  exact ⟨trivial, _, rfl, _, rfl, [], .of rfl rfl rfl rfl rfl ⟨⟨_, rfl, AVLe.of_eq rfl⟩, rfl, trivial⟩ trivial⟩
abbrev ownR (a b : Blks) : AV := ownA 64 a.length (some a.length) 65 b.length (some b.length)
theorem Do_ok (a b : Blks) (o : Oper) (h : okA a b = true) : FnIs Try.prog 20 [.d (encA a b), .d (encOp o)] [] (tup3 (ownR a b) (.d (encRes (doR a o))) (.int .i64 0)) [(64, rowB false (doA a o)), (65, rowB false (doB a b o))] := by
  have hC := check_is a b
  rw [h, if_pos rfl] at hC
  obtain ⟨hla, hla2, hab⟩ := okA_len h
  have hlb : 0 < b.length := by omega
  have hlb2 : b.length ≤ 1048576 := by omega
  replace hla2 : a.length ≤ 1048576 := by omega
  refine fnIs_of tab_ok Try.func20 rfl rfl rfl ?_
  refine wc_seq ?_
  refine wc_region ?_
  refine reg_new (step_C tab_ok (fun K hk => hk)) rfl ?_
  refine reg_new (step_C tab_ok (fun K hk => hk)) rfl ?_
  refine reg_new (step_C tab_ok (fun K hk => hk)) rfl ?_
  refine reg_new (step_C tab_ok (fun K hk => hk)) rfl ?_
  refine reg_quiet rfl (step_C tab_ok (fun K hk => hk)) ?_
  refine reg_nil ?_
  refine seq_n ?_
  refine wc_seq ?_
  refine wc_seq ?_
  refine wc_region ?_
  refine reg_quiet rfl (load_box tab_ok rfl rfl rfl rfl) ?_
  refine reg_quiet rfl (call_r hC rfl rfl (arg_e arg_nil) (.inl rfl) (fun _ => rfl)) ?_
  refine reg_quiet rfl (step_C tab_ok (fun K hk => hk)) ?_
  refine reg_nil ?_
  refine seq_n ?_
  refine wc_seq ?_
  refine wc_region ?_
  refine reg_quiet rfl (step_C tab_ok (fun K hk => hk)) ?_
  refine reg_quiet rfl (step_C tab_ok (fun K hk => hk)) ?_
  refine reg_nil ?_
  refine seq_n ?_
  refine wc_false rfl rfl ?_
  refine wc_skip ?_
  refine seq_n ?_
  refine wc_seq ?_
  refine wc_region ?_
  refine reg_quiet rfl (load_box tab_ok rfl rfl rfl rfl) ?_
  refine reg_new2 (call_new (value_is a b hla hla2 hlb hlb2) rfl rfl (arg_e arg_nil) (.inl rfl) rfl rfl) rfl ?_
  refine reg_new (step_C tab_ok (fun K hk => hk)) rfl ?_
  refine reg_store (store_row tab_ok rfl rfl rfl ⟨_, ⟨rfl, rfl, rfl⟩, rfl⟩ rfl) ?_
  refine reg_nil ?_
  refine seq_n ?_
  refine wc_seq ?_
  refine wc_region ?_
  refine reg_quiet rfl (load_box tab_ok rfl rfl rfl rfl) ?_
  refine reg_do rfl (call_h [(0, some 160), (1, some 152), (2, some 153)] (do_is a b (some a.length) (some b.length) false false o hab hlb) rfl rfl rfl (arg_ptr rfl rfl (arg_e arg_nil)) ⟨⟨rfl, rfl, _, _, rfl, rfl, .refl _⟩, ⟨rfl, rfl, _, _, rfl, rfl, .refl _⟩, ⟨rfl, rfl, _, _, rfl, rfl, .refl _⟩, trivial⟩ rfl rfl (.inl rfl) rfl rfl) rfl rfl ?_
  refine reg_new (step_C tab_ok (fun K hk => hk)) rfl ?_
  refine reg_store (store_row tab_ok rfl rfl rfl ⟨_, ⟨rfl, rfl, rfl⟩, rfl⟩ rfl) ?_
  refine reg_nil ?_
  refine seq_n ?_
  refine wc_seq ?_
  refine wc_draw (by kernel_rfl) ?_
  refine dreg_q [8] [160, 152, 153] rfl (load_box tab_ok rfl rfl rfl rfl) ?_
  refine dreg_q [9] [192] rfl (load_box tab_ok rfl rfl rfl rfl) ?_
  refine dreg_s [4, 21] [80, 152, 153] (store_row tab_ok rfl rfl rfl ⟨_, ⟨rfl, rfl, rfl⟩, rfl⟩ rfl) ?_
  refine dreg_s [5, 22] [88] (store_row tab_ok rfl rfl rfl ⟨_, ⟨rfl, rfl, rfl⟩, rfl⟩ rfl) ?_
  refine dreg_q [] [] rfl (step_C tab_ok (fun K hk => hk)) ?_
  refine dreg_end (by kernel_rfl) ?_
  refine seq_n ?_
  refine wc_ret ?_
  exact ⟨trivial, _, rfl, _, rfl, [(64, some 152), (65, some 153)], .of rfl rfl rfl rfl rfl ⟨⟨_, rfl, AVLe.of_eq rfl⟩, rfl, trivial⟩ ⟨⟨rfl, rfl, _, rfl, .refl _⟩, ⟨rfl, rfl, _, rfl, .refl _⟩, trivial⟩⟩
end Go.Proofs.Ytjpjchohpjbknaa
