/- Ledgers: Check, the clash of two uses, Count, lists that are joined. -/
import Derived.Test.YtjpjchohpjbknaaChecked
import Derived.Test.YtjpjchohpjbknaaEngB
import Derived.KernelRfl
import Derived.Test.YtjpjchohpjbknaaEngD
import Derived.Test.YtjpjchohpjbknaaEngE

set_option linter.unusedVariables false
set_option linter.unusedSimpArgs false

/- The table of types that the walks use: each row is checked against the loaded program. By a small program (gen_tab.py). -/
namespace Go.Proofs.Ytjpjchohpjbknaa
open Go.Eng
-- 1: func()
abbrev r1 : TyR := { desc := .cell, size := 1, bytes := 8, zero := .sc .nilFunc }
theorem ty1 : TyOk Try.prog 1 r1 := TyOk.mk' (by kernel_rfl) (by kernel_rfl) Try.underlying1 (by kernel_rfl) (by kernel_rfl)
-- 2: int64
abbrev r2 : TyR := { desc := .int .i64, size := 1, bytes := 8, zero := .sc (.int .i64 0) }
theorem ty2 : TyOk Try.prog 2 r2 := TyOk.mk' (by kernel_rfl) (by kernel_rfl) Try.underlying2 (by kernel_rfl) (by kernel_rfl)
-- 3: int
abbrev r3 : TyR := { desc := .int .i64, size := 1, bytes := 8, zero := .sc (.int .i64 0) }
theorem ty3 : TyOk Try.prog 3 r3 := TyOk.mk' (by kernel_rfl) (by kernel_rfl) Try.underlying3 (by kernel_rfl) (by kernel_rfl)
-- 4: bool
abbrev r4 : TyR := { desc := .bool, size := 1, bytes := 1, zero := .sc (.bool false) }
theorem ty4 : TyOk Try.prog 4 r4 := TyOk.mk' (by kernel_rfl) (by kernel_rfl) Try.underlying4 (by kernel_rfl) (by kernel_rfl)
-- 5: uint8
abbrev r5 : TyR := { desc := .int .u8, size := 1, bytes := 1, zero := .sc (.int .u8 0) }
theorem ty5 : TyOk Try.prog 5 r5 := TyOk.mk' (by kernel_rfl) (by kernel_rfl) Try.underlying5 (by kernel_rfl) (by kernel_rfl)
-- 9: string
abbrev r9 : TyR := { desc := .string, size := 1, bytes := 16, zero := .sc (.string ⟨#[]⟩) }
theorem ty9 : TyOk Try.prog 9 r9 := TyOk.mk' (by kernel_rfl) (by kernel_rfl) Try.underlying9 (by kernel_rfl) (by kernel_rfl)
-- 12: uintptr
abbrev r12 : TyR := { desc := .int .u64, size := 1, bytes := 8, zero := .sc (.int .u64 0) }
theorem ty12 : TyOk Try.prog 12 r12 := TyOk.mk' (by kernel_rfl) (by kernel_rfl) Try.underlying12 (by kernel_rfl) (by kernel_rfl)
-- 13: struct ( msg string; addr uintptr )
abbrev r13 : TyR := { desc := .struct [(0, 9), (1, 12)], size := 2, bytes := 24, zero := .cons (.sc (.string ⟨#[]⟩)) (.cons (.sc (.int .u64 0)) (.nil)) }
theorem ty13 : TyOk Try.prog 13 r13 := TyOk.mk' (by kernel_rfl) (by kernel_rfl) Try.underlying13 (by kernel_rfl) (by kernel_rfl)
-- 20: interface ()
abbrev r20 : TyR := { desc := .cell, size := 1, bytes := 16, zero := .sc .nilIface }
theorem ty20 : TyOk Try.prog 20 r20 := TyOk.mk' (by kernel_rfl) (by kernel_rfl) Try.underlying20 (by kernel_rfl) (by kernel_rfl)
-- 21: int32
abbrev r21 : TyR := { desc := .int .i32, size := 1, bytes := 4, zero := .sc (.int .i32 0) }
theorem ty21 : TyOk Try.prog 21 r21 := TyOk.mk' (by kernel_rfl) (by kernel_rfl) Try.underlying21 (by kernel_rfl) (by kernel_rfl)
-- 22: [][3]uint8
abbrev r22 : TyR := { desc := .slice 56, size := 1, bytes := 24, zero := .sc (.slice none 0 0) }
theorem ty22 : TyOk Try.prog 22 r22 := TyOk.mk' (by kernel_rfl) (by kernel_rfl) Try.underlying22 (by kernel_rfl) (by kernel_rfl)
-- 23: struct ( Blocks uint8; Ops [][3]uint8 )
abbrev r23 : TyR := { desc := .struct [(0, 5), (1, 22)], size := 2, bytes := 32, zero := .cons (.sc (.int .u8 0)) (.cons (.sc (.slice none 0 0)) (.nil)) }
theorem ty23 : TyOk Try.prog 23 r23 := TyOk.mk' (by kernel_rfl) (by kernel_rfl) Try.underlying23 (by kernel_rfl) (by kernel_rfl)
-- 24: caissonlaw21.O
abbrev r24 : TyR := { desc := .struct [(0, 5), (1, 22)], size := 2, bytes := 32, zero := .cons (.sc (.int .u8 0)) (.cons (.sc (.slice none 0 0)) (.nil)) }
theorem ty24 : TyOk Try.prog 24 r24 := TyOk.mk' (by kernel_rfl) (by kernel_rfl) Try.underlying24 (by kernel_rfl) (by kernel_rfl)
-- 25: []api.Op
abbrev r25 : TyR := { desc := .slice 47, size := 1, bytes := 24, zero := .sc (.slice none 0 0) }
theorem ty25 : TyOk Try.prog 25 r25 := TyOk.mk' (by kernel_rfl) (by kernel_rfl) Try.underlying25 (by kernel_rfl) (by kernel_rfl)
-- 27: func() (int, []api.Op)
abbrev r27 : TyR := { desc := .cell, size := 1, bytes := 8, zero := .sc .nilFunc }
theorem ty27 : TyOk Try.prog 27 r27 := TyOk.mk' (by kernel_rfl) (by kernel_rfl) Try.underlying27 (by kernel_rfl) (by kernel_rfl)
-- 28: []api.Block
abbrev r28 : TyR := { desc := .slice 41, size := 1, bytes := 24, zero := .sc (.slice none 0 0) }
theorem ty28 : TyOk Try.prog 28 r28 := TyOk.mk' (by kernel_rfl) (by kernel_rfl) Try.underlying28 (by kernel_rfl) (by kernel_rfl)
-- 29: struct ( Now []api.Block; Durable []api.Block )
abbrev r29 : TyR := { desc := .struct [(0, 28), (1, 28)], size := 2, bytes := 48, zero := .cons (.sc (.slice none 0 0)) (.cons (.sc (.slice none 0 0)) (.nil)) }
theorem ty29 : TyOk Try.prog 29 r29 := TyOk.mk' (by kernel_rfl) (by kernel_rfl) Try.underlying29 (by kernel_rfl) (by kernel_rfl)
-- 30: arrays.Array
abbrev r30 : TyR := { desc := .struct [(0, 28), (1, 28)], size := 2, bytes := 48, zero := .cons (.sc (.slice none 0 0)) (.cons (.sc (.slice none 0 0)) (.nil)) }
theorem ty30 : TyOk Try.prog 30 r30 := TyOk.mk' (by kernel_rfl) (by kernel_rfl) Try.underlying30 (by kernel_rfl) (by kernel_rfl)
-- 31: api.Errno
abbrev r31 : TyR := { desc := .int .i64, size := 1, bytes := 8, zero := .sc (.int .i64 0) }
theorem ty31 : TyOk Try.prog 31 r31 := TyOk.mk' (by kernel_rfl) (by kernel_rfl) Try.underlying31 (by kernel_rfl) (by kernel_rfl)
-- 33: func(int) (arrays.Array, api.Errno)
abbrev r33 : TyR := { desc := .cell, size := 1, bytes := 8, zero := .sc .nilFunc }
theorem ty33 : TyOk Try.prog 33 r33 := TyOk.mk' (by kernel_rfl) (by kernel_rfl) Try.underlying33 (by kernel_rfl) (by kernel_rfl)
-- 34: func(arrays.Array, caissonref21.A) int
abbrev r34 : TyR := { desc := .cell, size := 1, bytes := 8, zero := .sc .nilFunc }
theorem ty34 : TyOk Try.prog 34 r34 := TyOk.mk' (by kernel_rfl) (by kernel_rfl) Try.underlying34 (by kernel_rfl) (by kernel_rfl)
-- 35: caissonref21.A
abbrev r35 : TyR := { desc := .struct [(0, 28), (1, 28)], size := 2, bytes := 48, zero := .cons (.sc (.slice none 0 0)) (.cons (.sc (.slice none 0 0)) (.nil)) }
theorem ty35 : TyOk Try.prog 35 r35 := TyOk.mk' (by kernel_rfl) (by kernel_rfl) Try.underlying35 (by kernel_rfl) (by kernel_rfl)
-- 36: func(int) caissonref21.A
abbrev r36 : TyR := { desc := .cell, size := 1, bytes := 8, zero := .sc .nilFunc }
theorem ty36 : TyOk Try.prog 36 r36 := TyOk.mk' (by kernel_rfl) (by kernel_rfl) Try.underlying36 (by kernel_rfl) (by kernel_rfl)
-- 37: []arrays.Result
abbrev r37 : TyR := { desc := .slice 49, size := 1, bytes := 24, zero := .sc (.slice none 0 0) }
theorem ty37 : TyOk Try.prog 37 r37 := TyOk.mk' (by kernel_rfl) (by kernel_rfl) Try.underlying37 (by kernel_rfl) (by kernel_rfl)
-- 39: func(arrays.Array, []api.Op) (arrays.Array, []arrays.Result, api.Errno)
abbrev r39 : TyR := { desc := .cell, size := 1, bytes := 8, zero := .sc .nilFunc }
theorem ty39 : TyOk Try.prog 39 r39 := TyOk.mk' (by kernel_rfl) (by kernel_rfl) Try.underlying39 (by kernel_rfl) (by kernel_rfl)
-- 40: [32]uint8
abbrev r40 : TyR := { desc := .array 32 5, size := 32, bytes := 32, zero := .vec 32 1 encU8 (List.replicate 32 0) }
theorem ty40 : TyOk Try.prog 40 r40 := TyOk.mk' (by kernel_rfl) (by kernel_rfl) Try.underlying40 (by kernel_rfl) (by kernel_rfl)
-- 41: api.Block
abbrev r41 : TyR := { desc := .array 32 5, size := 32, bytes := 32, zero := .vec 32 1 encU8 (List.replicate 32 0) }
theorem ty41 : TyOk Try.prog 41 r41 := TyOk.mk' (by kernel_rfl) (by kernel_rfl) Try.underlying41 (by kernel_rfl) (by kernel_rfl)
-- 43: func(caissonref21.A, api.Op) (caissonref21.A, api.Block, api.Errno)
abbrev r43 : TyR := { desc := .cell, size := 1, bytes := 8, zero := .sc .nilFunc }
theorem ty43 : TyOk Try.prog 43 r43 := TyOk.mk' (by kernel_rfl) (by kernel_rfl) Try.underlying43 (by kernel_rfl) (by kernel_rfl)
-- 44: api.OpKind
abbrev r44 : TyR := { desc := .int .u8, size := 1, bytes := 1, zero := .sc (.int .u8 0) }
theorem ty44 : TyOk Try.prog 44 r44 := TyOk.mk' (by kernel_rfl) (by kernel_rfl) Try.underlying44 (by kernel_rfl) (by kernel_rfl)
-- 45: []uint8
abbrev r45 : TyR := { desc := .slice 5, size := 1, bytes := 24, zero := .sc (.slice none 0 0) }
theorem ty45 : TyOk Try.prog 45 r45 := TyOk.mk' (by kernel_rfl) (by kernel_rfl) Try.underlying45 (by kernel_rfl) (by kernel_rfl)
-- 46: struct ( Kind api.OpKind; Index int; Data []uint8 )
abbrev r46 : TyR := { desc := .struct [(0, 44), (1, 3), (2, 45)], size := 3, bytes := 40, zero := .cons (.sc (.int .u8 0)) (.cons (.sc (.int .i64 0)) (.cons (.sc (.slice none 0 0)) (.nil))) }
theorem ty46 : TyOk Try.prog 46 r46 := TyOk.mk' (by kernel_rfl) (by kernel_rfl) Try.underlying46 (by kernel_rfl) (by kernel_rfl)
-- 47: api.Op
abbrev r47 : TyR := { desc := .struct [(0, 44), (1, 3), (2, 45)], size := 3, bytes := 40, zero := .cons (.sc (.int .u8 0)) (.cons (.sc (.int .i64 0)) (.cons (.sc (.slice none 0 0)) (.nil))) }
theorem ty47 : TyOk Try.prog 47 r47 := TyOk.mk' (by kernel_rfl) (by kernel_rfl) Try.underlying47 (by kernel_rfl) (by kernel_rfl)
-- 48: struct ( Value api.Block; Err api.Errno )
abbrev r48 : TyR := { desc := .struct [(0, 41), (32, 31)], size := 33, bytes := 40, zero := .cons (.vec 32 1 encU8 (List.replicate 32 0)) (.cons (.sc (.int .i64 0)) (.nil)) }
theorem ty48 : TyOk Try.prog 48 r48 := TyOk.mk' (by kernel_rfl) (by kernel_rfl) Try.underlying48 (by kernel_rfl) (by kernel_rfl)
-- 49: arrays.Result
abbrev r49 : TyR := { desc := .struct [(0, 41), (32, 31)], size := 33, bytes := 40, zero := .cons (.vec 32 1 encU8 (List.replicate 32 0)) (.cons (.sc (.int .i64 0)) (.nil)) }
theorem ty49 : TyOk Try.prog 49 r49 := TyOk.mk' (by kernel_rfl) (by kernel_rfl) Try.underlying49 (by kernel_rfl) (by kernel_rfl)
-- 51: func(arrays.Array, api.Op) (arrays.Array, arrays.Result, api.Errno)
abbrev r51 : TyR := { desc := .cell, size := 1, bytes := 8, zero := .sc .nilFunc }
theorem ty51 : TyOk Try.prog 51 r51 := TyOk.mk' (by kernel_rfl) (by kernel_rfl) Try.underlying51 (by kernel_rfl) (by kernel_rfl)
-- 52: func(int, api.Op) bool
abbrev r52 : TyR := { desc := .cell, size := 1, bytes := 8, zero := .sc .nilFunc }
theorem ty52 : TyOk Try.prog 52 r52 := TyOk.mk' (by kernel_rfl) (by kernel_rfl) Try.underlying52 (by kernel_rfl) (by kernel_rfl)
-- 53: func(arrays.Array) api.Errno
abbrev r53 : TyR := { desc := .cell, size := 1, bytes := 8, zero := .sc .nilFunc }
theorem ty53 : TyOk Try.prog 53 r53 := TyOk.mk' (by kernel_rfl) (by kernel_rfl) Try.underlying53 (by kernel_rfl) (by kernel_rfl)
-- 54: func() bool
abbrev r54 : TyR := { desc := .cell, size := 1, bytes := 8, zero := .sc .nilFunc }
theorem ty54 : TyOk Try.prog 54 r54 := TyOk.mk' (by kernel_rfl) (by kernel_rfl) Try.underlying54 (by kernel_rfl) (by kernel_rfl)
-- 55: func(caissonlaw21.O) bool
abbrev r55 : TyR := { desc := .cell, size := 1, bytes := 8, zero := .sc .nilFunc }
theorem ty55 : TyOk Try.prog 55 r55 := TyOk.mk' (by kernel_rfl) (by kernel_rfl) Try.underlying55 (by kernel_rfl) (by kernel_rfl)
-- 56: [3]uint8
abbrev r56 : TyR := { desc := .array 3 5, size := 3, bytes := 3, zero := .vec 3 1 encU8 (List.replicate 3 0) }
theorem ty56 : TyOk Try.prog 56 r56 := TyOk.mk' (by kernel_rfl) (by kernel_rfl) Try.underlying56 (by kernel_rfl) (by kernel_rfl)
-- 57: func(caissonref21.A) arrays.Array
abbrev r57 : TyR := { desc := .cell, size := 1, bytes := 8, zero := .sc .nilFunc }
theorem ty57 : TyOk Try.prog 57 r57 := TyOk.mk' (by kernel_rfl) (by kernel_rfl) Try.underlying57 (by kernel_rfl) (by kernel_rfl)
-- 58: func() caissonref21.A
abbrev r58 : TyR := { desc := .cell, size := 1, bytes := 8, zero := .sc .nilFunc }
theorem ty58 : TyOk Try.prog 58 r58 := TyOk.mk' (by kernel_rfl) (by kernel_rfl) Try.underlying58 (by kernel_rfl) (by kernel_rfl)
-- 59: func(int, [3]uint8) api.Op
abbrev r59 : TyR := { desc := .cell, size := 1, bytes := 8, zero := .sc .nilFunc }
theorem ty59 : TyOk Try.prog 59 r59 := TyOk.mk' (by kernel_rfl) (by kernel_rfl) Try.underlying59 (by kernel_rfl) (by kernel_rfl)
-- 60: func(arrays.Array, arrays.Array) bool
abbrev r60 : TyR := { desc := .cell, size := 1, bytes := 8, zero := .sc .nilFunc }
theorem ty60 : TyOk Try.prog 60 r60 := TyOk.mk' (by kernel_rfl) (by kernel_rfl) Try.underlying60 (by kernel_rfl) (by kernel_rfl)
-- 61: func(arrays.Array) (arrays.Array, api.Errno)
abbrev r61 : TyR := { desc := .cell, size := 1, bytes := 8, zero := .sc .nilFunc }
theorem ty61 : TyOk Try.prog 61 r61 := TyOk.mk' (by kernel_rfl) (by kernel_rfl) Try.underlying61 (by kernel_rfl) (by kernel_rfl)
-- 62: func(caissonlaw21.O, [3]uint8, [3]uint8) bool
abbrev r62 : TyR := { desc := .cell, size := 1, bytes := 8, zero := .sc .nilFunc }
theorem ty62 : TyOk Try.prog 62 r62 := TyOk.mk' (by kernel_rfl) (by kernel_rfl) Try.underlying62 (by kernel_rfl) (by kernel_rfl)
-- 63: []int
abbrev r63 : TyR := { desc := .slice 3, size := 1, bytes := 24, zero := .sc (.slice none 0 0) }
theorem ty63 : TyOk Try.prog 63 r63 := TyOk.mk' (by kernel_rfl) (by kernel_rfl) Try.underlying63 (by kernel_rfl) (by kernel_rfl)
-- 65: func(arrays.Array, arrays.Array) ([]int, api.Errno)
abbrev r65 : TyR := { desc := .cell, size := 1, bytes := 8, zero := .sc .nilFunc }
theorem ty65 : TyOk Try.prog 65 r65 := TyOk.mk' (by kernel_rfl) (by kernel_rfl) Try.underlying65 (by kernel_rfl) (by kernel_rfl)
-- 67: func(arrays.Array, int) (api.Block, api.Errno)
abbrev r67 : TyR := { desc := .cell, size := 1, bytes := 8, zero := .sc .nilFunc }
theorem ty67 : TyOk Try.prog 67 r67 := TyOk.mk' (by kernel_rfl) (by kernel_rfl) Try.underlying67 (by kernel_rfl) (by kernel_rfl)
-- 68: func(arrays.Array, int, api.Block) (arrays.Array, api.Errno)
abbrev r68 : TyR := { desc := .cell, size := 1, bytes := 8, zero := .sc .nilFunc }
theorem ty68 : TyOk Try.prog 68 r68 := TyOk.mk' (by kernel_rfl) (by kernel_rfl) Try.underlying68 (by kernel_rfl) (by kernel_rfl)
-- 69: func(arrays.Array, api.Op, int) bool
abbrev r69 : TyR := { desc := .cell, size := 1, bytes := 8, zero := .sc .nilFunc }
theorem ty69 : TyOk Try.prog 69 r69 := TyOk.mk' (by kernel_rfl) (by kernel_rfl) Try.underlying69 (by kernel_rfl) (by kernel_rfl)
-- 70: func([]api.Block, []api.Block) bool
abbrev r70 : TyR := { desc := .cell, size := 1, bytes := 8, zero := .sc .nilFunc }
theorem ty70 : TyOk Try.prog 70 r70 := TyOk.mk' (by kernel_rfl) (by kernel_rfl) Try.underlying70 (by kernel_rfl) (by kernel_rfl)
-- 71: func(caissonlaw21.O, caissonlaw21.O) bool
abbrev r71 : TyR := { desc := .cell, size := 1, bytes := 8, zero := .sc .nilFunc }
theorem ty71 : TyOk Try.prog 71 r71 := TyOk.mk' (by kernel_rfl) (by kernel_rfl) Try.underlying71 (by kernel_rfl) (by kernel_rfl)
-- 72: func(uint8) api.Block
abbrev r72 : TyR := { desc := .cell, size := 1, bytes := 8, zero := .sc .nilFunc }
theorem ty72 : TyOk Try.prog 72 r72 := TyOk.mk' (by kernel_rfl) (by kernel_rfl) Try.underlying72 (by kernel_rfl) (by kernel_rfl)
-- 73: []ledgers.Use
abbrev r73 : TyR := { desc := .slice 84, size := 1, bytes := 24, zero := .sc (.slice none 0 0) }
theorem ty73 : TyOk Try.prog 73 r73 := TyOk.mk' (by kernel_rfl) (by kernel_rfl) Try.underlying73 (by kernel_rfl) (by kernel_rfl)
-- 74: func([]ledgers.Use) int
abbrev r74 : TyR := { desc := .cell, size := 1, bytes := 8, zero := .sc .nilFunc }
theorem ty74 : TyOk Try.prog 74 r74 := TyOk.mk' (by kernel_rfl) (by kernel_rfl) Try.underlying74 (by kernel_rfl) (by kernel_rfl)
-- 75: func(ledgers.Use) string
abbrev r75 : TyR := { desc := .cell, size := 1, bytes := 8, zero := .sc .nilFunc }
theorem ty75 : TyOk Try.prog 75 r75 := TyOk.mk' (by kernel_rfl) (by kernel_rfl) Try.underlying75 (by kernel_rfl) (by kernel_rfl)
-- 76: [16]uint8
abbrev r76 : TyR := { desc := .array 16 5, size := 16, bytes := 16, zero := .vec 16 1 encU8 (List.replicate 16 0) }
theorem ty76 : TyOk Try.prog 76 r76 := TyOk.mk' (by kernel_rfl) (by kernel_rfl) Try.underlying76 (by kernel_rfl) (by kernel_rfl)
-- 77: uint32
abbrev r77 : TyR := { desc := .int .u32, size := 1, bytes := 4, zero := .sc (.int .u32 0) }
theorem ty77 : TyOk Try.prog 77 r77 := TyOk.mk' (by kernel_rfl) (by kernel_rfl) Try.underlying77 (by kernel_rfl) (by kernel_rfl)
-- 78: uint64
abbrev r78 : TyR := { desc := .int .u64, size := 1, bytes := 8, zero := .sc (.int .u64 0) }
theorem ty78 : TyOk Try.prog 78 r78 := TyOk.mk' (by kernel_rfl) (by kernel_rfl) Try.underlying78 (by kernel_rfl) (by kernel_rfl)
-- 79: struct ( Shard uint32; Counter uint64 )
abbrev r79 : TyR := { desc := .struct [(0, 77), (1, 78)], size := 2, bytes := 16, zero := .cons (.sc (.int .u32 0)) (.cons (.sc (.int .u64 0)) (.nil)) }
theorem ty79 : TyOk Try.prog 79 r79 := TyOk.mk' (by kernel_rfl) (by kernel_rfl) Try.underlying79 (by kernel_rfl) (by kernel_rfl)
-- 80: api.Nonce
abbrev r80 : TyR := { desc := .struct [(0, 77), (1, 78)], size := 2, bytes := 16, zero := .cons (.sc (.int .u32 0)) (.cons (.sc (.int .u64 0)) (.nil)) }
theorem ty80 : TyOk Try.prog 80 r80 := TyOk.mk' (by kernel_rfl) (by kernel_rfl) Try.underlying80 (by kernel_rfl) (by kernel_rfl)
-- 81: struct ( Nonce api.Nonce; First uint32; Last uint32 )
abbrev r81 : TyR := { desc := .struct [(0, 80), (2, 77), (3, 77)], size := 4, bytes := 24, zero := .cons (.cons (.sc (.int .u32 0)) (.cons (.sc (.int .u64 0)) (.nil))) (.cons (.sc (.int .u32 0)) (.cons (.sc (.int .u32 0)) (.nil))) }
theorem ty81 : TyOk Try.prog 81 r81 := TyOk.mk' (by kernel_rfl) (by kernel_rfl) Try.underlying81 (by kernel_rfl) (by kernel_rfl)
-- 82: streams.Range
abbrev r82 : TyR := { desc := .struct [(0, 80), (2, 77), (3, 77)], size := 4, bytes := 24, zero := .cons (.cons (.sc (.int .u32 0)) (.cons (.sc (.int .u64 0)) (.nil))) (.cons (.sc (.int .u32 0)) (.cons (.sc (.int .u32 0)) (.nil))) }
theorem ty82 : TyOk Try.prog 82 r82 := TyOk.mk' (by kernel_rfl) (by kernel_rfl) Try.underlying82 (by kernel_rfl) (by kernel_rfl)
-- 83: struct ( Key [16]uint8; Range streams.Range )
abbrev r83 : TyR := { desc := .struct [(0, 76), (16, 82)], size := 20, bytes := 40, zero := .cons (.vec 16 1 encU8 (List.replicate 16 0)) (.cons (.cons (.cons (.sc (.int .u32 0)) (.cons (.sc (.int .u64 0)) (.nil))) (.cons (.sc (.int .u32 0)) (.cons (.sc (.int .u32 0)) (.nil)))) (.nil)) }
theorem ty83 : TyOk Try.prog 83 r83 := TyOk.mk' (by kernel_rfl) (by kernel_rfl) Try.underlying83 (by kernel_rfl) (by kernel_rfl)
-- 84: ledgers.Use
abbrev r84 : TyR := { desc := .struct [(0, 76), (16, 82)], size := 20, bytes := 40, zero := .cons (.vec 16 1 encU8 (List.replicate 16 0)) (.cons (.cons (.cons (.sc (.int .u32 0)) (.cons (.sc (.int .u64 0)) (.nil))) (.cons (.sc (.int .u32 0)) (.cons (.sc (.int .u32 0)) (.nil)))) (.nil)) }
theorem ty84 : TyOk Try.prog 84 r84 := TyOk.mk' (by kernel_rfl) (by kernel_rfl) Try.underlying84 (by kernel_rfl) (by kernel_rfl)
-- 86: func(ledgers.Ledger) (string, api.Errno)
abbrev r86 : TyR := { desc := .cell, size := 1, bytes := 8, zero := .sc .nilFunc }
theorem ty86 : TyOk Try.prog 86 r86 := TyOk.mk' (by kernel_rfl) (by kernel_rfl) Try.underlying86 (by kernel_rfl) (by kernel_rfl)
-- 87: struct ( Uses []ledgers.Use )
abbrev r87 : TyR := { desc := .struct [(0, 73)], size := 1, bytes := 24, zero := .cons (.sc (.slice none 0 0)) (.nil) }
theorem ty87 : TyOk Try.prog 87 r87 := TyOk.mk' (by kernel_rfl) (by kernel_rfl) Try.underlying87 (by kernel_rfl) (by kernel_rfl)
-- 88: ledgers.Ledger
abbrev r88 : TyR := { desc := .struct [(0, 73)], size := 1, bytes := 24, zero := .cons (.sc (.slice none 0 0)) (.nil) }
theorem ty88 : TyOk Try.prog 88 r88 := TyOk.mk' (by kernel_rfl) (by kernel_rfl) Try.underlying88 (by kernel_rfl) (by kernel_rfl)
-- 89: func([]ledgers.Use) ledgers.Ledger
abbrev r89 : TyR := { desc := .cell, size := 1, bytes := 8, zero := .sc .nilFunc }
theorem ty89 : TyOk Try.prog 89 r89 := TyOk.mk' (by kernel_rfl) (by kernel_rfl) Try.underlying89 (by kernel_rfl) (by kernel_rfl)
-- 91: func(string) (ledgers.Ledger, int, api.Errno)
abbrev r91 : TyR := { desc := .cell, size := 1, bytes := 8, zero := .sc .nilFunc }
theorem ty91 : TyOk Try.prog 91 r91 := TyOk.mk' (by kernel_rfl) (by kernel_rfl) Try.underlying91 (by kernel_rfl) (by kernel_rfl)
-- 92: func(ledgers.Ledger, []ledgers.Use) bool
abbrev r92 : TyR := { desc := .cell, size := 1, bytes := 8, zero := .sc .nilFunc }
theorem ty92 : TyOk Try.prog 92 r92 := TyOk.mk' (by kernel_rfl) (by kernel_rfl) Try.underlying92 (by kernel_rfl) (by kernel_rfl)
-- 93: func([]ledgers.Use) bool
abbrev r93 : TyR := { desc := .cell, size := 1, bytes := 8, zero := .sc .nilFunc }
theorem ty93 : TyOk Try.prog 93 r93 := TyOk.mk' (by kernel_rfl) (by kernel_rfl) Try.underlying93 (by kernel_rfl) (by kernel_rfl)
-- 94: func(string) bool
abbrev r94 : TyR := { desc := .cell, size := 1, bytes := 8, zero := .sc .nilFunc }
theorem ty94 : TyOk Try.prog 94 r94 := TyOk.mk' (by kernel_rfl) (by kernel_rfl) Try.underlying94 (by kernel_rfl) (by kernel_rfl)
-- 95: [][4]uint8
abbrev r95 : TyR := { desc := .slice 106, size := 1, bytes := 24, zero := .sc (.slice none 0 0) }
theorem ty95 : TyOk Try.prog 95 r95 := TyOk.mk' (by kernel_rfl) (by kernel_rfl) Try.underlying95 (by kernel_rfl) (by kernel_rfl)
-- 96: struct ( L [][4]uint8 )
abbrev r96 : TyR := { desc := .struct [(0, 95)], size := 1, bytes := 24, zero := .cons (.sc (.slice none 0 0)) (.nil) }
theorem ty96 : TyOk Try.prog 96 r96 := TyOk.mk' (by kernel_rfl) (by kernel_rfl) Try.underlying96 (by kernel_rfl) (by kernel_rfl)
-- 97: caissonlaw11.U
abbrev r97 : TyR := { desc := .struct [(0, 95)], size := 1, bytes := 24, zero := .cons (.sc (.slice none 0 0)) (.nil) }
theorem ty97 : TyOk Try.prog 97 r97 := TyOk.mk' (by kernel_rfl) (by kernel_rfl) Try.underlying97 (by kernel_rfl) (by kernel_rfl)
-- 98: func() []ledgers.Use
abbrev r98 : TyR := { desc := .cell, size := 1, bytes := 8, zero := .sc .nilFunc }
theorem ty98 : TyOk Try.prog 98 r98 := TyOk.mk' (by kernel_rfl) (by kernel_rfl) Try.underlying98 (by kernel_rfl) (by kernel_rfl)
-- 100: func(ledgers.Ledger, ledgers.Ledger) (ledgers.Ledger, api.Errno)
abbrev r100 : TyR := { desc := .cell, size := 1, bytes := 8, zero := .sc .nilFunc }
theorem ty100 : TyOk Try.prog 100 r100 := TyOk.mk' (by kernel_rfl) (by kernel_rfl) Try.underlying100 (by kernel_rfl) (by kernel_rfl)
-- 102: func(ledgers.Ledger) (int, int, bool)
abbrev r102 : TyR := { desc := .cell, size := 1, bytes := 8, zero := .sc .nilFunc }
theorem ty102 : TyOk Try.prog 102 r102 := TyOk.mk' (by kernel_rfl) (by kernel_rfl) Try.underlying102 (by kernel_rfl) (by kernel_rfl)
-- 103: func(ledgers.Use, ledgers.Use) bool
abbrev r103 : TyR := { desc := .cell, size := 1, bytes := 8, zero := .sc .nilFunc }
theorem ty103 : TyOk Try.prog 103 r103 := TyOk.mk' (by kernel_rfl) (by kernel_rfl) Try.underlying103 (by kernel_rfl) (by kernel_rfl)
-- 104: func(ledgers.Ledger, [16]uint8) int
abbrev r104 : TyR := { desc := .cell, size := 1, bytes := 8, zero := .sc .nilFunc }
theorem ty104 : TyOk Try.prog 104 r104 := TyOk.mk' (by kernel_rfl) (by kernel_rfl) Try.underlying104 (by kernel_rfl) (by kernel_rfl)
-- 105: func(caissonlaw11.U, caissonlaw11.U, uint8) bool
abbrev r105 : TyR := { desc := .cell, size := 1, bytes := 8, zero := .sc .nilFunc }
theorem ty105 : TyOk Try.prog 105 r105 := TyOk.mk' (by kernel_rfl) (by kernel_rfl) Try.underlying105 (by kernel_rfl) (by kernel_rfl)
-- 106: [4]uint8
abbrev r106 : TyR := { desc := .array 4 5, size := 4, bytes := 4, zero := .vec 4 1 encU8 (List.replicate 4 0) }
theorem ty106 : TyOk Try.prog 106 r106 := TyOk.mk' (by kernel_rfl) (by kernel_rfl) Try.underlying106 (by kernel_rfl) (by kernel_rfl)
-- 108: func([]ledgers.Use) (int, int)
abbrev r108 : TyR := { desc := .cell, size := 1, bytes := 8, zero := .sc .nilFunc }
theorem ty108 : TyOk Try.prog 108 r108 := TyOk.mk' (by kernel_rfl) (by kernel_rfl) Try.underlying108 (by kernel_rfl) (by kernel_rfl)
-- 109: func(ledgers.Ledger, ledgers.Use) (ledgers.Ledger, api.Errno)
abbrev r109 : TyR := { desc := .cell, size := 1, bytes := 8, zero := .sc .nilFunc }
theorem ty109 : TyOk Try.prog 109 r109 := TyOk.mk' (by kernel_rfl) (by kernel_rfl) Try.underlying109 (by kernel_rfl) (by kernel_rfl)
-- 110: func(caissonlaw11.U, [4]uint8) bool
abbrev r110 : TyR := { desc := .cell, size := 1, bytes := 8, zero := .sc .nilFunc }
theorem ty110 : TyOk Try.prog 110 r110 := TyOk.mk' (by kernel_rfl) (by kernel_rfl) Try.underlying110 (by kernel_rfl) (by kernel_rfl)
-- 111: func(ledgers.Ledger) api.Errno
abbrev r111 : TyR := { desc := .cell, size := 1, bytes := 8, zero := .sc .nilFunc }
theorem ty111 : TyOk Try.prog 111 r111 := TyOk.mk' (by kernel_rfl) (by kernel_rfl) Try.underlying111 (by kernel_rfl) (by kernel_rfl)
-- 112: func([]ledgers.Use, []ledgers.Use, ledgers.Use) bool
abbrev r112 : TyR := { desc := .cell, size := 1, bytes := 8, zero := .sc .nilFunc }
theorem ty112 : TyOk Try.prog 112 r112 := TyOk.mk' (by kernel_rfl) (by kernel_rfl) Try.underlying112 (by kernel_rfl) (by kernel_rfl)
-- 113: func(int) api.Errno
abbrev r113 : TyR := { desc := .cell, size := 1, bytes := 8, zero := .sc .nilFunc }
theorem ty113 : TyOk Try.prog 113 r113 := TyOk.mk' (by kernel_rfl) (by kernel_rfl) Try.underlying113 (by kernel_rfl) (by kernel_rfl)
-- 114: func(arrays.Array) arrays.Array
abbrev r114 : TyR := { desc := .cell, size := 1, bytes := 8, zero := .sc .nilFunc }
theorem ty114 : TyOk Try.prog 114 r114 := TyOk.mk' (by kernel_rfl) (by kernel_rfl) Try.underlying114 (by kernel_rfl) (by kernel_rfl)
-- 115: func(*arrays.Array, api.Op) arrays.Result
abbrev r115 : TyR := { desc := .cell, size := 1, bytes := 8, zero := .sc .nilFunc }
theorem ty115 : TyOk Try.prog 115 r115 := TyOk.mk' (by kernel_rfl) (by kernel_rfl) Try.underlying115 (by kernel_rfl) (by kernel_rfl)
-- 116: *arrays.Array
abbrev r116 : TyR := { desc := .cell, size := 1, bytes := 8, zero := .sc (.pointer none) }
theorem ty116 : TyOk Try.prog 116 r116 := TyOk.mk' (by kernel_rfl) (by kernel_rfl) Try.underlying116 (by kernel_rfl) (by kernel_rfl)
-- 117: func(caissonref21.A) caissonref21.A
abbrev r117 : TyR := { desc := .cell, size := 1, bytes := 8, zero := .sc .nilFunc }
theorem ty117 : TyOk Try.prog 117 r117 := TyOk.mk' (by kernel_rfl) (by kernel_rfl) Try.underlying117 (by kernel_rfl) (by kernel_rfl)
-- 118: func([]api.Block) []api.Block
abbrev r118 : TyR := { desc := .cell, size := 1, bytes := 8, zero := .sc .nilFunc }
theorem ty118 : TyOk Try.prog 118 r118 := TyOk.mk' (by kernel_rfl) (by kernel_rfl) Try.underlying118 (by kernel_rfl) (by kernel_rfl)
-- 119: [2]arrays.Array
abbrev r119 : TyR := { desc := .array 2 30, size := 4, bytes := 96, zero := .cons (.cons (.sc (.slice none 0 0)) (.cons (.sc (.slice none 0 0)) (.nil))) (.cons (.cons (.sc (.slice none 0 0)) (.cons (.sc (.slice none 0 0)) (.nil))) (.nil)) }
theorem ty119 : TyOk Try.prog 119 r119 := TyOk.mk' (by kernel_rfl) (by kernel_rfl) Try.underlying119 (by kernel_rfl) (by kernel_rfl)
-- 120: func([]int) []int
abbrev r120 : TyR := { desc := .cell, size := 1, bytes := 8, zero := .sc .nilFunc }
theorem ty120 : TyOk Try.prog 120 r120 := TyOk.mk' (by kernel_rfl) (by kernel_rfl) Try.underlying120 (by kernel_rfl) (by kernel_rfl)
-- 121: func(arrays.Array, int) api.Errno
abbrev r121 : TyR := { desc := .cell, size := 1, bytes := 8, zero := .sc .nilFunc }
theorem ty121 : TyOk Try.prog 121 r121 := TyOk.mk' (by kernel_rfl) (by kernel_rfl) Try.underlying121 (by kernel_rfl) (by kernel_rfl)
-- 122: func(string, int) string
abbrev r122 : TyR := { desc := .cell, size := 1, bytes := 8, zero := .sc .nilFunc }
theorem ty122 : TyOk Try.prog 122 r122 := TyOk.mk' (by kernel_rfl) (by kernel_rfl) Try.underlying122 (by kernel_rfl) (by kernel_rfl)
-- 123: func(api.Nonce) []uint8
abbrev r123 : TyR := { desc := .cell, size := 1, bytes := 8, zero := .sc .nilFunc }
theorem ty123 : TyOk Try.prog 123 r123 := TyOk.mk' (by kernel_rfl) (by kernel_rfl) Try.underlying123 (by kernel_rfl) (by kernel_rfl)
-- 124: func(uint32) []uint8
abbrev r124 : TyR := { desc := .cell, size := 1, bytes := 8, zero := .sc .nilFunc }
theorem ty124 : TyOk Try.prog 124 r124 := TyOk.mk' (by kernel_rfl) (by kernel_rfl) Try.underlying124 (by kernel_rfl) (by kernel_rfl)
-- 125: *strings.Builder
abbrev r125 : TyR := { desc := .cell, size := 1, bytes := 8, zero := .sc (.pointer none) }
theorem ty125 : TyOk Try.prog 125 r125 := TyOk.mk' (by kernel_rfl) (by kernel_rfl) Try.underlying125 (by kernel_rfl) (by kernel_rfl)
-- 126: struct ( addr *strings.Builder; buf []uint8 )
abbrev r126 : TyR := { desc := .struct [(0, 125), (1, 45)], size := 2, bytes := 32, zero := .cons (.sc (.pointer none)) (.cons (.sc (.slice none 0 0)) (.nil)) }
theorem ty126 : TyOk Try.prog 126 r126 := TyOk.mk' (by kernel_rfl) (by kernel_rfl) Try.underlying126 (by kernel_rfl) (by kernel_rfl)
-- 127: strings.Builder
abbrev r127 : TyR := { desc := .struct [(0, 125), (1, 45)], size := 2, bytes := 32, zero := .cons (.sc (.pointer none)) (.cons (.sc (.slice none 0 0)) (.nil)) }
theorem ty127 : TyOk Try.prog 127 r127 := TyOk.mk' (by kernel_rfl) (by kernel_rfl) Try.underlying127 (by kernel_rfl) (by kernel_rfl)
-- 128: func() []uint8
abbrev r128 : TyR := { desc := .cell, size := 1, bytes := 8, zero := .sc .nilFunc }
theorem ty128 : TyOk Try.prog 128 r128 := TyOk.mk' (by kernel_rfl) (by kernel_rfl) Try.underlying128 (by kernel_rfl) (by kernel_rfl)
-- 129: interface ( Error() string )
abbrev r129 : TyR := { desc := .cell, size := 1, bytes := 16, zero := .sc .nilIface }
theorem ty129 : TyOk Try.prog 129 r129 := TyOk.mk' (by kernel_rfl) (by kernel_rfl) Try.underlying129 (by kernel_rfl) (by kernel_rfl)
-- 130: error
abbrev r130 : TyR := { desc := .cell, size := 1, bytes := 16, zero := .sc .nilIface }
theorem ty130 : TyOk Try.prog 130 r130 := TyOk.mk' (by kernel_rfl) (by kernel_rfl) Try.underlying130 (by kernel_rfl) (by kernel_rfl)
-- 131: func(uint8) error
abbrev r131 : TyR := { desc := .cell, size := 1, bytes := 8, zero := .sc .nilFunc }
theorem ty131 : TyOk Try.prog 131 r131 := TyOk.mk' (by kernel_rfl) (by kernel_rfl) Try.underlying131 (by kernel_rfl) (by kernel_rfl)
-- 132: uint
abbrev r132 : TyR := { desc := .int .u64, size := 1, bytes := 8, zero := .sc (.int .u64 0) }
theorem ty132 : TyOk Try.prog 132 r132 := TyOk.mk' (by kernel_rfl) (by kernel_rfl) Try.underlying132 (by kernel_rfl) (by kernel_rfl)
-- 133: func() string
abbrev r133 : TyR := { desc := .cell, size := 1, bytes := 8, zero := .sc .nilFunc }
theorem ty133 : TyOk Try.prog 133 r133 := TyOk.mk' (by kernel_rfl) (by kernel_rfl) Try.underlying133 (by kernel_rfl) (by kernel_rfl)
-- 135: func(string, string) (string, string, bool)
abbrev r135 : TyR := { desc := .cell, size := 1, bytes := 8, zero := .sc .nilFunc }
theorem ty135 : TyOk Try.prog 135 r135 := TyOk.mk' (by kernel_rfl) (by kernel_rfl) Try.underlying135 (by kernel_rfl) (by kernel_rfl)
-- 137: func(string) (ledgers.Use, api.Errno)
abbrev r137 : TyR := { desc := .cell, size := 1, bytes := 8, zero := .sc .nilFunc }
theorem ty137 : TyOk Try.prog 137 r137 := TyOk.mk' (by kernel_rfl) (by kernel_rfl) Try.underlying137 (by kernel_rfl) (by kernel_rfl)
-- 138: func([]ledgers.Use) []ledgers.Use
abbrev r138 : TyR := { desc := .cell, size := 1, bytes := 8, zero := .sc .nilFunc }
theorem ty138 : TyOk Try.prog 138 r138 := TyOk.mk' (by kernel_rfl) (by kernel_rfl) Try.underlying138 (by kernel_rfl) (by kernel_rfl)
-- 139: [2]ledgers.Ledger
abbrev r139 : TyR := { desc := .array 2 88, size := 2, bytes := 48, zero := .cons (.cons (.sc (.slice none 0 0)) (.nil)) (.cons (.cons (.sc (.slice none 0 0)) (.nil)) (.nil)) }
theorem ty139 : TyOk Try.prog 139 r139 := TyOk.mk' (by kernel_rfl) (by kernel_rfl) Try.underlying139 (by kernel_rfl) (by kernel_rfl)
-- 140: func(ledgers.Ledger, []ledgers.Use) (ledgers.Ledger, api.Errno)
abbrev r140 : TyR := { desc := .cell, size := 1, bytes := 8, zero := .sc .nilFunc }
theorem ty140 : TyOk Try.prog 140 r140 := TyOk.mk' (by kernel_rfl) (by kernel_rfl) Try.underlying140 (by kernel_rfl) (by kernel_rfl)
-- 141: map[ledgers.place][]int
abbrev r141 : TyR := { desc := .cell, size := 1, bytes := 8, zero := .sc (.map none) }
theorem ty141 : TyOk Try.prog 141 r141 := TyOk.mk' (by kernel_rfl) (by kernel_rfl) Try.underlying141 (by kernel_rfl) (by kernel_rfl)
-- 142: struct ( key [16]uint8; nonce api.Nonce )
abbrev r142 : TyR := { desc := .struct [(0, 76), (16, 80)], size := 18, bytes := 32, zero := .cons (.vec 16 1 encU8 (List.replicate 16 0)) (.cons (.cons (.sc (.int .u32 0)) (.cons (.sc (.int .u64 0)) (.nil))) (.nil)) }
theorem ty142 : TyOk Try.prog 142 r142 := TyOk.mk' (by kernel_rfl) (by kernel_rfl) Try.underlying142 (by kernel_rfl) (by kernel_rfl)
-- 143: ledgers.place
abbrev r143 : TyR := { desc := .struct [(0, 76), (16, 80)], size := 18, bytes := 32, zero := .cons (.vec 16 1 encU8 (List.replicate 16 0)) (.cons (.cons (.sc (.int .u32 0)) (.cons (.sc (.int .u64 0)) (.nil))) (.nil)) }
theorem ty143 : TyOk Try.prog 143 r143 := TyOk.mk' (by kernel_rfl) (by kernel_rfl) Try.underlying143 (by kernel_rfl) (by kernel_rfl)
-- 144: func(streams.Range, streams.Range) bool
abbrev r144 : TyR := { desc := .cell, size := 1, bytes := 8, zero := .sc .nilFunc }
theorem ty144 : TyOk Try.prog 144 r144 := TyOk.mk' (by kernel_rfl) (by kernel_rfl) Try.underlying144 (by kernel_rfl) (by kernel_rfl)
-- 145: func(api.Nonce, api.Nonce, [2]uint32, [2]uint32) bool
abbrev r145 : TyR := { desc := .cell, size := 1, bytes := 8, zero := .sc .nilFunc }
theorem ty145 : TyOk Try.prog 145 r145 := TyOk.mk' (by kernel_rfl) (by kernel_rfl) Try.underlying145 (by kernel_rfl) (by kernel_rfl)
-- 146: [2]uint32
abbrev r146 : TyR := { desc := .array 2 77, size := 2, bytes := 8, zero := .cons (.sc (.int .u32 0)) (.cons (.sc (.int .u32 0)) (.nil)) }
theorem ty146 : TyOk Try.prog 146 r146 := TyOk.mk' (by kernel_rfl) (by kernel_rfl) Try.underlying146 (by kernel_rfl) (by kernel_rfl)
-- 147: func(*arrays.Array, api.Op) api.Block
abbrev r147 : TyR := { desc := .cell, size := 1, bytes := 8, zero := .sc .nilFunc }
theorem ty147 : TyOk Try.prog 147 r147 := TyOk.mk' (by kernel_rfl) (by kernel_rfl) Try.underlying147 (by kernel_rfl) (by kernel_rfl)
-- 148: struct ( do func(*arrays.Array, api.Op) api.Block )
abbrev r148 : TyR := { desc := .struct [(0, 147)], size := 1, bytes := 8, zero := .cons (.sc .nilFunc) (.nil) }
theorem ty148 : TyOk Try.prog 148 r148 := TyOk.mk' (by kernel_rfl) (by kernel_rfl) Try.underlying148 (by kernel_rfl) (by kernel_rfl)
-- 149: arrays.step
abbrev r149 : TyR := { desc := .struct [(0, 147)], size := 1, bytes := 8, zero := .cons (.sc .nilFunc) (.nil) }
theorem ty149 : TyOk Try.prog 149 r149 := TyOk.mk' (by kernel_rfl) (by kernel_rfl) Try.underlying149 (by kernel_rfl) (by kernel_rfl)
-- 150: [4]arrays.step
abbrev r150 : TyR := { desc := .array 4 149, size := 4, bytes := 32, zero := .cons (.cons (.sc .nilFunc) (.nil)) (.cons (.cons (.sc .nilFunc) (.nil)) (.cons (.cons (.sc .nilFunc) (.nil)) (.cons (.cons (.sc .nilFunc) (.nil)) (.nil)))) }
theorem ty150 : TyOk Try.prog 150 r150 := TyOk.mk' (by kernel_rfl) (by kernel_rfl) Try.underlying150 (by kernel_rfl) (by kernel_rfl)
-- 151: func() [4]arrays.step
abbrev r151 : TyR := { desc := .cell, size := 1, bytes := 8, zero := .sc .nilFunc }
theorem ty151 : TyOk Try.prog 151 r151 := TyOk.mk' (by kernel_rfl) (by kernel_rfl) Try.underlying151 (by kernel_rfl) (by kernel_rfl)
-- 153: func(uint, uint) (uint, uint)
abbrev r153 : TyR := { desc := .cell, size := 1, bytes := 8, zero := .sc .nilFunc }
theorem ty153 : TyOk Try.prog 153 r153 := TyOk.mk' (by kernel_rfl) (by kernel_rfl) Try.underlying153 (by kernel_rfl) (by kernel_rfl)
-- 154: func(string, string) bool
abbrev r154 : TyR := { desc := .cell, size := 1, bytes := 8, zero := .sc .nilFunc }
theorem ty154 : TyOk Try.prog 154 r154 := TyOk.mk' (by kernel_rfl) (by kernel_rfl) Try.underlying154 (by kernel_rfl) (by kernel_rfl)
-- 155: func(int)
abbrev r155 : TyR := { desc := .cell, size := 1, bytes := 8, zero := .sc .nilFunc }
theorem ty155 : TyOk Try.prog 155 r155 := TyOk.mk' (by kernel_rfl) (by kernel_rfl) Try.underlying155 (by kernel_rfl) (by kernel_rfl)
-- 157: func(string) (int, error)
abbrev r157 : TyR := { desc := .cell, size := 1, bytes := 8, zero := .sc .nilFunc }
theorem ty157 : TyOk Try.prog 157 r157 := TyOk.mk' (by kernel_rfl) (by kernel_rfl) Try.underlying157 (by kernel_rfl) (by kernel_rfl)
-- 158: func() int
abbrev r158 : TyR := { desc := .cell, size := 1, bytes := 8, zero := .sc .nilFunc }
theorem ty158 : TyOk Try.prog 158 r158 := TyOk.mk' (by kernel_rfl) (by kernel_rfl) Try.underlying158 (by kernel_rfl) (by kernel_rfl)
-- 159: func(uint64) []uint8
abbrev r159 : TyR := { desc := .cell, size := 1, bytes := 8, zero := .sc .nilFunc }
theorem ty159 : TyOk Try.prog 159 r159 := TyOk.mk' (by kernel_rfl) (by kernel_rfl) Try.underlying159 (by kernel_rfl) (by kernel_rfl)
-- 160: func(uint64, int) []uint8
abbrev r160 : TyR := { desc := .cell, size := 1, bytes := 8, zero := .sc .nilFunc }
theorem ty160 : TyOk Try.prog 160 r160 := TyOk.mk' (by kernel_rfl) (by kernel_rfl) Try.underlying160 (by kernel_rfl) (by kernel_rfl)
-- 161: func(...[]uint8) []uint8
abbrev r161 : TyR := { desc := .cell, size := 1, bytes := 8, zero := .sc .nilFunc }
theorem ty161 : TyOk Try.prog 161 r161 := TyOk.mk' (by kernel_rfl) (by kernel_rfl) Try.underlying161 (by kernel_rfl) (by kernel_rfl)
-- 162: *uint8
abbrev r162 : TyR := { desc := .cell, size := 1, bytes := 8, zero := .sc (.pointer none) }
theorem ty162 : TyOk Try.prog 162 r162 := TyOk.mk' (by kernel_rfl) (by kernel_rfl) Try.underlying162 (by kernel_rfl) (by kernel_rfl)
-- 163: func(string, uint8) int
abbrev r163 : TyR := { desc := .cell, size := 1, bytes := 8, zero := .sc .nilFunc }
theorem ty163 : TyOk Try.prog 163 r163 := TyOk.mk' (by kernel_rfl) (by kernel_rfl) Try.underlying163 (by kernel_rfl) (by kernel_rfl)
-- 165: func([]uint8) (api.Nonce, api.Errno)
abbrev r165 : TyR := { desc := .cell, size := 1, bytes := 8, zero := .sc .nilFunc }
theorem ty165 : TyOk Try.prog 165 r165 := TyOk.mk' (by kernel_rfl) (by kernel_rfl) Try.underlying165 (by kernel_rfl) (by kernel_rfl)
-- 167: func([]uint8) (uint32, api.Errno)
abbrev r167 : TyR := { desc := .cell, size := 1, bytes := 8, zero := .sc .nilFunc }
theorem ty167 : TyOk Try.prog 167 r167 := TyOk.mk' (by kernel_rfl) (by kernel_rfl) Try.underlying167 (by kernel_rfl) (by kernel_rfl)
-- 168: func(...[]ledgers.Use) []ledgers.Use
abbrev r168 : TyR := { desc := .cell, size := 1, bytes := 8, zero := .sc .nilFunc }
theorem ty168 : TyOk Try.prog 168 r168 := TyOk.mk' (by kernel_rfl) (by kernel_rfl) Try.underlying168 (by kernel_rfl) (by kernel_rfl)
-- 170: func(uint32, uint32) (uint32, uint32)
abbrev r170 : TyR := { desc := .cell, size := 1, bytes := 8, zero := .sc .nilFunc }
theorem ty170 : TyOk Try.prog 170 r170 := TyOk.mk' (by kernel_rfl) (by kernel_rfl) Try.underlying170 (by kernel_rfl) (by kernel_rfl)
-- 172: func(uint64, uint64) (uint64, uint64)
abbrev r172 : TyR := { desc := .cell, size := 1, bytes := 8, zero := .sc .nilFunc }
theorem ty172 : TyOk Try.prog 172 r172 := TyOk.mk' (by kernel_rfl) (by kernel_rfl) Try.underlying172 (by kernel_rfl) (by kernel_rfl)
-- 173: [][]uint8
abbrev r173 : TyR := { desc := .slice 45, size := 1, bytes := 24, zero := .sc (.slice none 0 0) }
theorem ty173 : TyOk Try.prog 173 r173 := TyOk.mk' (by kernel_rfl) (by kernel_rfl) Try.underlying173 (by kernel_rfl) (by kernel_rfl)
-- 175: func(unsafe.Pointer) unsafe.Pointer
abbrev r175 : TyR := { desc := .cell, size := 1, bytes := 8, zero := .sc .nilFunc }
theorem ty175 : TyOk Try.prog 175 r175 := TyOk.mk' (by kernel_rfl) (by kernel_rfl) Try.underlying175 (by kernel_rfl) (by kernel_rfl)
-- 176: func(string, string) int
abbrev r176 : TyR := { desc := .cell, size := 1, bytes := 8, zero := .sc .nilFunc }
theorem ty176 : TyOk Try.prog 176 r176 := TyOk.mk' (by kernel_rfl) (by kernel_rfl) Try.underlying176 (by kernel_rfl) (by kernel_rfl)
-- 178: func([]uint8) (uint64, api.Errno)
abbrev r178 : TyR := { desc := .cell, size := 1, bytes := 8, zero := .sc .nilFunc }
theorem ty178 : TyOk Try.prog 178 r178 := TyOk.mk' (by kernel_rfl) (by kernel_rfl) Try.underlying178 (by kernel_rfl) (by kernel_rfl)
-- 179: func([]uint8, int) (uint64, api.Errno)
abbrev r179 : TyR := { desc := .cell, size := 1, bytes := 8, zero := .sc .nilFunc }
theorem ty179 : TyOk Try.prog 179 r179 := TyOk.mk' (by kernel_rfl) (by kernel_rfl) Try.underlying179 (by kernel_rfl) (by kernel_rfl)
-- 180: [][]ledgers.Use
abbrev r180 : TyR := { desc := .slice 73, size := 1, bytes := 24, zero := .sc (.slice none 0 0) }
theorem ty180 : TyOk Try.prog 180 r180 := TyOk.mk' (by kernel_rfl) (by kernel_rfl) Try.underlying180 (by kernel_rfl) (by kernel_rfl)
-- 181: func([]ledgers.Use, int) []ledgers.Use
abbrev r181 : TyR := { desc := .cell, size := 1, bytes := 8, zero := .sc .nilFunc }
theorem ty181 : TyOk Try.prog 181 r181 := TyOk.mk' (by kernel_rfl) (by kernel_rfl) Try.underlying181 (by kernel_rfl) (by kernel_rfl)
-- 182: func(int) []uint8
abbrev r182 : TyR := { desc := .cell, size := 1, bytes := 8, zero := .sc .nilFunc }
theorem ty182 : TyOk Try.prog 182 r182 := TyOk.mk' (by kernel_rfl) (by kernel_rfl) Try.underlying182 (by kernel_rfl) (by kernel_rfl)
-- 183: func(int) int
abbrev r183 : TyR := { desc := .cell, size := 1, bytes := 8, zero := .sc .nilFunc }
theorem ty183 : TyOk Try.prog 183 r183 := TyOk.mk' (by kernel_rfl) (by kernel_rfl) Try.underlying183 (by kernel_rfl) (by kernel_rfl)
-- 184: func(string) (uint32, uint32)
abbrev r184 : TyR := { desc := .cell, size := 1, bytes := 8, zero := .sc .nilFunc }
theorem ty184 : TyOk Try.prog 184 r184 := TyOk.mk' (by kernel_rfl) (by kernel_rfl) Try.underlying184 (by kernel_rfl) (by kernel_rfl)
-- 187: [0]*runtime.PanicNilError
abbrev r187 : TyR := { desc := .array 0 16, size := 0, bytes := 0, zero := .nil }
theorem ty187 : TyOk Try.prog 187 r187 := TyOk.mk' (by kernel_rfl) (by kernel_rfl) Try.underlying187 (by kernel_rfl) (by kernel_rfl)
-- 192: func(unsafe.Pointer, unsafe.Pointer) bool
abbrev r192 : TyR := { desc := .cell, size := 1, bytes := 8, zero := .sc .nilFunc }
theorem ty192 : TyOk Try.prog 192 r192 := TyOk.mk' (by kernel_rfl) (by kernel_rfl) Try.underlying192 (by kernel_rfl) (by kernel_rfl)
abbrev tab : Tab := [(1, r1), (2, r2), (3, r3), (4, r4), (5, r5), (9, r9), (12, r12), (13, r13), (20, r20), (21, r21), (22, r22), (23, r23), (24, r24), (25, r25), (27, r27), (28, r28), (29, r29), (30, r30), (31, r31), (33, r33), (34, r34), (35, r35), (36, r36), (37, r37), (39, r39), (40, r40), (41, r41), (43, r43), (44, r44), (45, r45), (46, r46), (47, r47), (48, r48), (49, r49), (51, r51), (52, r52), (53, r53), (54, r54), (55, r55), (56, r56), (57, r57), (58, r58), (59, r59), (60, r60), (61, r61), (62, r62), (63, r63), (65, r65), (67, r67), (68, r68), (69, r69), (70, r70), (71, r71), (72, r72), (73, r73), (74, r74), (75, r75), (76, r76), (77, r77), (78, r78), (79, r79), (80, r80), (81, r81), (82, r82), (83, r83), (84, r84), (86, r86), (87, r87), (88, r88), (89, r89), (91, r91), (92, r92), (93, r93), (94, r94), (95, r95), (96, r96), (97, r97), (98, r98), (100, r100), (102, r102), (103, r103), (104, r104), (105, r105), (106, r106), (108, r108), (109, r109), (110, r110), (111, r111), (112, r112), (113, r113), (114, r114), (115, r115), (116, r116), (117, r117), (118, r118), (119, r119), (120, r120), (121, r121), (122, r122), (123, r123), (124, r124), (125, r125), (126, r126), (127, r127), (128, r128), (129, r129), (130, r130), (131, r131), (132, r132), (133, r133), (135, r135), (137, r137), (138, r138), (139, r139), (140, r140), (141, r141), (142, r142), (143, r143), (144, r144), (145, r145), (146, r146), (147, r147), (148, r148), (149, r149), (150, r150), (151, r151), (153, r153), (154, r154), (155, r155), (157, r157), (158, r158), (159, r159), (160, r160), (161, r161), (162, r162), (163, r163), (165, r165), (167, r167), (168, r168), (170, r170), (172, r172), (173, r173), (175, r175), (176, r176), (178, r178), (179, r179), (180, r180), (181, r181), (182, r182), (183, r183), (184, r184), (187, r187), (192, r192)]
theorem tab_ok : TabOk Try.prog tab :=
  (TabOk.cons ty1 (TabOk.cons ty2 (TabOk.cons ty3 (TabOk.cons ty4 (TabOk.cons ty5 (TabOk.cons ty9 (TabOk.cons ty12 (TabOk.cons ty13 (TabOk.cons ty20 (TabOk.cons ty21 (TabOk.cons ty22 (TabOk.cons ty23 (TabOk.cons ty24 (TabOk.cons ty25 (TabOk.cons ty27 (TabOk.cons ty28 (TabOk.cons ty29 (TabOk.cons ty30 (TabOk.cons ty31 (TabOk.cons ty33 (TabOk.cons ty34 (TabOk.cons ty35 (TabOk.cons ty36 (TabOk.cons ty37 (TabOk.cons ty39 (TabOk.cons ty40 (TabOk.cons ty41 (TabOk.cons ty43 (TabOk.cons ty44 (TabOk.cons ty45 (TabOk.cons ty46 (TabOk.cons ty47 (TabOk.cons ty48 (TabOk.cons ty49 (TabOk.cons ty51 (TabOk.cons ty52 (TabOk.cons ty53 (TabOk.cons ty54 (TabOk.cons ty55 (TabOk.cons ty56 (TabOk.cons ty57 (TabOk.cons ty58 (TabOk.cons ty59 (TabOk.cons ty60 (TabOk.cons ty61 (TabOk.cons ty62 (TabOk.cons ty63 (TabOk.cons ty65 (TabOk.cons ty67 (TabOk.cons ty68 (TabOk.cons ty69 (TabOk.cons ty70 (TabOk.cons ty71 (TabOk.cons ty72 (TabOk.cons ty73 (TabOk.cons ty74 (TabOk.cons ty75 (TabOk.cons ty76 (TabOk.cons ty77 (TabOk.cons ty78 (TabOk.cons ty79 (TabOk.cons ty80 (TabOk.cons ty81 (TabOk.cons ty82 (TabOk.cons ty83 (TabOk.cons ty84 (TabOk.cons ty86 (TabOk.cons ty87 (TabOk.cons ty88 (TabOk.cons ty89 (TabOk.cons ty91 (TabOk.cons ty92 (TabOk.cons ty93 (TabOk.cons ty94 (TabOk.cons ty95 (TabOk.cons ty96 (TabOk.cons ty97 (TabOk.cons ty98 (TabOk.cons ty100 (TabOk.cons ty102 (TabOk.cons ty103 (TabOk.cons ty104 (TabOk.cons ty105 (TabOk.cons ty106 (TabOk.cons ty108 (TabOk.cons ty109 (TabOk.cons ty110 (TabOk.cons ty111 (TabOk.cons ty112 (TabOk.cons ty113 (TabOk.cons ty114 (TabOk.cons ty115 (TabOk.cons ty116 (TabOk.cons ty117 (TabOk.cons ty118 (TabOk.cons ty119 (TabOk.cons ty120 (TabOk.cons ty121 (TabOk.cons ty122 (TabOk.cons ty123 (TabOk.cons ty124 (TabOk.cons ty125 (TabOk.cons ty126 (TabOk.cons ty127 (TabOk.cons ty128 (TabOk.cons ty129 (TabOk.cons ty130 (TabOk.cons ty131 (TabOk.cons ty132 (TabOk.cons ty133 (TabOk.cons ty135 (TabOk.cons ty137 (TabOk.cons ty138 (TabOk.cons ty139 (TabOk.cons ty140 (TabOk.cons ty141 (TabOk.cons ty142 (TabOk.cons ty143 (TabOk.cons ty144 (TabOk.cons ty145 (TabOk.cons ty146 (TabOk.cons ty147 (TabOk.cons ty148 (TabOk.cons ty149 (TabOk.cons ty150 (TabOk.cons ty151 (TabOk.cons ty153 (TabOk.cons ty154 (TabOk.cons ty155 (TabOk.cons ty157 (TabOk.cons ty158 (TabOk.cons ty159 (TabOk.cons ty160 (TabOk.cons ty161 (TabOk.cons ty162 (TabOk.cons ty163 (TabOk.cons ty165 (TabOk.cons ty167 (TabOk.cons ty168 (TabOk.cons ty170 (TabOk.cons ty172 (TabOk.cons ty173 (TabOk.cons ty175 (TabOk.cons ty176 (TabOk.cons ty178 (TabOk.cons ty179 (TabOk.cons ty180 (TabOk.cons ty181 (TabOk.cons ty182 (TabOk.cons ty183 (TabOk.cons ty184 (TabOk.cons ty187 (TabOk.cons ty192 TabOk.nil)))))))))))))))))))))))))))))))))))))))))))))))))))))))))))))))))))))))))))))))))))))))))))))))))))))))))))))))))))))))))))))))))))))))))))))))))))))))))
end Go.Proofs.Ytjpjchohpjbknaa

/- Arrays of blocks as data. -/
namespace Go.Proofs.Ytjpjchohpjbknaa
open Go.Eng
abbrev bo (b : Bool) : D := .sc (.bool b)
abbrev i6 (n : Int) : D := .sc (.int .i64 n)
abbrev u8s (n : Int) : D := .sc (.int .u8 n)
def encBlock (l : List Int) : D := .vec 32 1 encU8 l
/-- An operation. -/
structure Oper where
  kind : Int
  index : Int
  data : List Int
  deriving DecidableEq
def encOp (o : Oper) : D := .cons (u8s o.kind) (.cons (i6 o.index) (.cons (.arr 1 encU8 o.data) .nil))
/-- A result of an operation. -/
structure Res where
  value : List Int
  err : Int
  deriving DecidableEq
def encRes (r : Res) : D := .cons (encBlock r.value) (.cons (i6 r.err) .nil)
abbrev encA (a b : List (List Int)) : D := .cons (.arr 32 encBlock a) (.cons (.arr 32 encBlock b) .nil)
/-- An array whose blocks lie in owned rows. -/
abbrev ownA (r1 n1 : Nat) (c1 : Option Nat) (r2 n2 : Nat) (c2 : Option Nat) : AV := .acons (.own r1 0 n1 32 c1) (.acons (.own r2 0 n2 32 c2) (.d .nil))
abbrev rowB (ex : Bool) (l : List (List Int)) : Row := .ds 41 32 ex encBlock l
abbrev zeroA : D := .cons (.sc (.slice none 0 0)) (.cons (.sc (.slice none 0 0)) .nil)
def zeroBlock : List Int := [0, 0, 0, 0, 0, 0, 0, 0, 0, 0, 0, 0, 0, 0, 0, 0, 0, 0, 0, 0, 0, 0, 0, 0, 0, 0, 0, 0, 0, 0, 0, 0]
theorem block_eq (a b : List Int) : EqOk Try.prog 2 41 (encBlock a) (encBlock b) (decide (a = b)) :=
  eq_vec tab_ok (P := Try.prog) Try.underlying41 rfl (fun _ => rfl) rfl (fun _ _ => eq_int (P := Try.prog) Try.underlying5)
theorem res_eq (a b : Res) : EqOk Try.prog 3 49 (encRes a) (encRes b) (decide (a = b)) := by
  refine (eq_struct (P := Try.prog) Try.underlying49 (by kernel_rfl) rfl rfl (eqf_cons tab_ok rfl (by kernel_rfl) rfl rfl (block_eq _ _) rfl (eqf_cons tab_ok rfl (by kernel_rfl) rfl rfl ((eq_int (P := Try.prog) Try.underlying31).up (by decide)) rfl eqf_nil))).cast ?_
  cases a; cases b
  simp
theorem opens_block : Opens Try.prog 41 32 encBlock fun l => l.length = 32 ∧ ∀ a ∈ l, (Lit.int .u8 a).wf = true :=
  opens_array (P := Try.prog) (n := 32) Try.underlying41 (by kernel_rfl) (by kernel_rfl) (opens_int (P := Try.prog) Try.underlying5)
/-- An array, lent. -/
theorem arg_A {look : Nat → Option Row} {ρ : Nat → Option Nat} {r1 n1 r2 n2 : Nat} {c1 c2 : Option Nat} {t1 t2 : TypeId} {e1 e2 : Bool} {a b : List (List Int)} {bs avs : List AV} (h1 : look r1 = some (.ds t1 32 e1 encBlock a)) (h2 : look r2 = some (.ds t2 32 e2 encBlock b)) (l1 : n1 = a.length) (l2 : n2 = b.length) (ht : ArgsA look ρ bs avs) :
    ArgsA look ρ (ownA r1 n1 c1 r2 n2 c2 :: bs) (.d (encA a b) :: avs) := by
  subst l1 l2
  exact ⟨_, avs, rfl, ⟨rfl, rfl⟩, ⟨rfl, _, _, rfl, by simp only [ArgD, h1]; exact ⟨trivial, by simp, a, by simp, .refl _⟩, ⟨_, _, rfl, by simp only [ArgD, h2]; exact ⟨trivial, by simp, b, by simp, .refl _⟩, DLe.refl _⟩⟩, ht⟩
end Go.Proofs.Ytjpjchohpjbknaa

/- Uses of keys as data. -/
namespace Go.Proofs.Ytjpjchohpjbknaa
open Go.Eng
abbrev u32s (n : Int) : D := .sc (.int .u32 n)
abbrev u64s (n : Int) : D := .sc (.int .u64 n)
abbrev encKey (k : List Int) : D := .vec 16 1 encU8 k
structure LNonce where
  shard : Int
  counter : Int
  deriving DecidableEq
def encLN (n : LNonce) : D := .cons (u32s n.shard) (.cons (u64s n.counter) .nil)
structure LRange where
  nonce : LNonce
  first : Int
  last : Int
  deriving DecidableEq
def encLR (r : LRange) : D := .cons (encLN r.nonce) (.cons (u32s r.first) (.cons (u32s r.last) .nil))
/-- A use. -/
structure LUse where
  key : List Int
  range : LRange
  deriving DecidableEq
def encUse (u : LUse) : D := .cons (encKey u.key) (.cons (encLR u.range) .nil)
/-- A key and a nonce. -/
structure LPlace where
  key : List Int
  nonce : LNonce
  deriving DecidableEq
def encPl (p : LPlace) : D := .cons (encKey p.key) (.cons (encLN p.nonce) .nil)
abbrev encLed (l : List LUse) : D := .cons (.arr 20 encUse l) .nil
abbrev zeroLed : D := .cons (.sc (.slice none 0 0)) .nil
abbrev ownLed (r n : Nat) (c : Option Nat) : AV := .acons (.own r 0 n 20 c) (.d .nil)
abbrev rowU (ex : Bool) (l : List LUse) : Row := .ds 84 20 ex encUse l

theorem lkey_eq (a b : List Int) : EqOk Try.prog 2 76 (encKey a) (encKey b) (decide (a = b)) :=
  eq_vec tab_ok (P := Try.prog) Try.underlying76 rfl (fun _ => rfl) rfl (fun _ _ => eq_int (P := Try.prog) Try.underlying5)
theorem ln_eq (a b : LNonce) : EqOk Try.prog 2 80 (encLN a) (encLN b) (decide (a = b)) := by
  refine (eq_struct (P := Try.prog) Try.underlying80 (by kernel_rfl) rfl rfl (eqf_cons tab_ok rfl (by kernel_rfl) rfl rfl (eq_int (P := Try.prog) Try.underlying77) rfl (eqf_cons tab_ok rfl (by kernel_rfl) rfl rfl (eq_int (P := Try.prog) Try.underlying78) rfl eqf_nil))).cast ?_
  cases a; cases b
  simp
theorem lr_eq (a b : LRange) : EqOk Try.prog 3 82 (encLR a) (encLR b) (decide (a = b)) := by
  refine (eq_struct (P := Try.prog) Try.underlying82 (by kernel_rfl) rfl rfl (eqf_cons tab_ok rfl (by kernel_rfl) rfl rfl (ln_eq _ _) rfl (eqf_cons tab_ok rfl (by kernel_rfl) rfl rfl ((eq_int (P := Try.prog) Try.underlying77).up (by decide)) rfl (eqf_cons tab_ok rfl (by kernel_rfl) rfl rfl ((eq_int (P := Try.prog) Try.underlying77).up (by decide)) rfl eqf_nil)))).cast ?_
  cases a; cases b
  simp
theorem lu_eq (a b : LUse) : EqOk Try.prog 4 84 (encUse a) (encUse b) (decide (a = b)) := by
  refine (eq_struct (P := Try.prog) Try.underlying84 (by kernel_rfl) rfl rfl (eqf_cons tab_ok rfl (by kernel_rfl) rfl rfl ((lkey_eq _ _).up (by decide)) rfl (eqf_cons tab_ok rfl (by kernel_rfl) rfl rfl (lr_eq _ _) rfl eqf_nil))).cast ?_
  cases a; cases b
  simp
theorem lp_eq (a b : LPlace) : EqOk Try.prog 3 143 (encPl a) (encPl b) (decide (a = b)) := by
  refine (eq_struct (P := Try.prog) Try.underlying143 (by kernel_rfl) rfl rfl (eqf_cons tab_ok rfl (by kernel_rfl) rfl rfl (lkey_eq _ _) rfl (eqf_cons tab_ok rfl (by kernel_rfl) rfl rfl (ln_eq _ _) rfl eqf_nil))).cast ?_
  cases a; cases b
  simp
theorem lp_key (p : LPlace) : KeyOk Try.prog 3 143 (encPl p) :=
  key_struct (P := Try.prog) Try.underlying143 rfl (keyf_cons tab_ok rfl (by kernel_rfl) rfl (key_vec tab_ok (P := Try.prog) Try.underlying76 rfl (fun _ => rfl) rfl (fun _ => key_int (P := Try.prog) Try.underlying5)) rfl
    (keyf_cons tab_ok rfl (by kernel_rfl) rfl (key_struct (P := Try.prog) Try.underlying80 rfl (keyf_cons tab_ok rfl (by kernel_rfl) rfl (key_int (P := Try.prog) Try.underlying77) rfl (keyf_cons tab_ok rfl (by kernel_rfl) rfl (key_int (P := Try.prog) Try.underlying78) rfl keyf_nil))) rfl keyf_nil))
theorem lp_keyd (p : LPlace) : (encPl p).keyd :=
  ⟨fun x n => by cases n <;> simp [Instr.sameBits], ⟨fun n => by cases n <;> simp [Instr.sameBits], fun n => by cases n <;> simp [Instr.sameBits], trivial⟩, trivial⟩
theorem lp_ty : KeyTy Try.prog 143 encPl 3 :=
  keyTy_wide (by decide) (by rw [Try.underlying143]) lp_key lp_eq lp_keyd
theorem seen_zero : ZeroIs Try.prog 63 (.sc (.slice none 0 0)) := zero_of (by kernel_rfl) rfl
end Go.Proofs.Ytjpjchohpjbknaa

/- Ledgers: valid, Check, Overlap, Clash, Count. -/
namespace Go.Proofs.Ytjpjchohpjbknaa
open Go.Eng
set_option maxHeartbeats 2000000
attribute [local irreducible] WC RegS RegD SeqQ BlkQ ScoQ RegK CutK Sat SatN FnIs LoopQ StepIs OpIs
abbrev validU (u : LUse) : Bool := decide (u.range.first ≤ u.range.last)
theorem valid_is (u : LUse) : FnIs Try.prog 68 [.d (encUse u)] [] (.bool (validU u)) [] := by
  refine fnIs_of tab_ok Try.func68 rfl rfl rfl ?_
  refine wc_seq ?_
  refine wc_region ?_
  refine reg_new (step_C tab_ok (fun K hk => hk)) rfl ?_
  refine reg_quiet rfl (step_C tab_ok (fun K hk => hk)) ?_
  refine reg_nil ?_
  refine seq_n ?_
  refine wc_seq ?_
  refine wc_region ?_
  refine reg_quiet rfl (step_C tab_ok (fun K hk => hk)) ?_
  refine reg_quiet rfl (step_C tab_ok (fun K hk => hk)) ?_
  refine reg_quiet rfl (load_box tab_ok rfl rfl ⟨_, rfl, rfl⟩ rfl) ?_
  refine reg_quiet rfl (step_C tab_ok (fun K hk => hk)) ?_
  refine reg_quiet rfl (step_C tab_ok (fun K hk => hk)) ?_
  refine reg_quiet rfl (load_box tab_ok rfl rfl ⟨_, rfl, rfl⟩ rfl) ?_
  refine reg_quiet rfl (step_C tab_ok (fun K hk => hk)) ?_
  refine reg_quiet rfl (step_C tab_ok (fun K hk => hk)) ?_
  refine reg_nil ?_
  refine seq_n ?_
  refine wc_ret ?_
  exact ⟨trivial, [], .of rfl rfl rfl rfl rfl ⟨⟨_, rfl, AVLe.of_eq rfl⟩, rfl, trivial⟩ trivial⟩
def chkL (l : List LUse) : Int := if (l.length : Int) > 65536 then 3 else if l.all validU = true then 0 else 1
structure AllTo (l : List LUse) (i : Nat) : Prop where
  le : i ≤ l.length
  all : (l.take i).all validU = true
theorem AllTo.zero (l : List LUse) : AllTo l 0 := ⟨Nat.zero_le _, by simp⟩
theorem AllTo.go {l : List LUse} {i : Nat} {u : LUse} (h : AllTo l i) (hu : l[i]? = some u) (hv : validU u = true) : AllTo l (i + 1) := by
  obtain ⟨hlt, he⟩ := List.getElem?_eq_some_iff.1 hu
  refine ⟨hlt, ?_⟩
  rw [List.take_add_one, hu]
  simp [h.all, hv]
theorem AllTo.bad {l : List LUse} {i : Nat} {u : LUse} (hu : l[i]? = some u) (hv : validU u = false) : l.all validU = false := by
  obtain ⟨hlt, he⟩ := List.getElem?_eq_some_iff.1 hu
  rw [List.all_eq_false]
  exact ⟨u, List.mem_of_getElem? hu, by simp [hv]⟩
theorem AllTo.end {l : List LUse} {i : Nat} (h : AllTo l i) (hi : i = l.length) : l.all validU = true := by
  have := h.all
  rwa [hi, List.take_length] at this
theorem ledcheck_is (l : List LUse) : FnIs Try.prog 51 [.d (encLed l)] [] (.int .i64 (chkL l)) [] := by
  refine fnIs_of tab_ok Try.func51 rfl rfl rfl ?_
  refine wc_seq ?_
  refine wc_region ?_
  refine reg_new (step_C tab_ok (fun K hk => hk)) rfl ?_
  refine reg_quiet rfl (step_C tab_ok (fun K hk => hk)) ?_
  refine reg_nil ?_
  refine seq_n ?_
  refine wc_seq ?_
  refine wc_seq ?_
  refine wc_region ?_
  refine reg_quiet rfl (step_C tab_ok (fun K hk => hk)) ?_
  refine reg_quiet rfl (load_box tab_ok rfl rfl ⟨_, rfl, rfl⟩ rfl) ?_
  refine reg_quiet rfl (len_arr tab_ok rfl rfl) ?_
  refine reg_quiet rfl (step_C tab_ok (fun K hk => hk)) ?_
  refine reg_nil ?_
  refine seq_n ?_
  refine wc_cond rfl (fun h1 => ?_) (fun h1 => ?_)
  · refine wc_seq ?_
    refine wc_region ?_
    refine reg_quiet rfl (step_C tab_ok (fun K hk => hk)) ?_
    refine reg_nil ?_
    refine seq_n ?_
    refine wc_ret ?_
    refine seq_r ?_
    exact ⟨trivial, [], .of rfl rfl rfl rfl rfl ⟨⟨_, rfl, AVLe.of_eq (by rw [chkL, if_pos (by simpa using h1)]; rfl)⟩, rfl, trivial⟩ trivial⟩
  · have hL : l.length ≤ 65536 := by have := of_decide_eq_false h1; omega
    have hc : chkL l = if l.all validU = true then 0 else 1 := by rw [chkL, if_neg (by simpa using h1)]
    refine wc_skip ?_
    refine seq_n ?_
    refine wc_seq ?_
    refine wc_seq ?_
    refine wc_region ?_
    refine reg_quiet rfl (step_C tab_ok (fun K hk => hk)) ?_
    refine reg_quiet rfl (load_box tab_ok rfl rfl ⟨_, rfl, rfl⟩ rfl) ?_
    refine reg_quiet rfl (len_arr tab_ok rfl rfl) ?_
    refine reg_quiet rfl (step_C tab_ok (fun K hk => hk)) ?_
    refine reg_nil ?_
    refine seq_n ?_
    refine wc_block ?_
    refine wc_inv (fun i : Nat => ⟨[(12, .int .i64 i), (11, .int .i64 l.length), (10, .d (.arr 20 encUse l))], [], 72, Try.f51.ntmps, 64⟩) (AllTo l) (fun i => l.length - i) 0 [] (AllTo.zero l)
      (.of rfl rfl rfl rfl rfl ⟨⟨_, rfl, .refl _⟩, rfl, ⟨_, rfl, .refl _⟩, rfl, ⟨_, rfl, .refl _⟩, rfl, trivial⟩ trivial) ?_
    intro i hinv
    have hi := hinv.le
    refine wc_of ?_
    refine wc_seq ?_
    refine wc_region ?_
    refine reg_quiet rfl (step_C tab_ok (fun K hk => hk)) ?_
    refine reg_nil ?_
    refine seq_n ?_
    refine wc_seq ?_
    refine wc_cond rfl (fun h2 => ?_) (fun h2 => ?_)
    · have hlt : i < l.length := by have := of_decide_eq_true h2; omega
      obtain ⟨u, hu⟩ : ∃ u, l[i]? = some u := ⟨_, List.getElem?_eq_getElem hlt⟩
      have hu' : l[((i : Int)).toNat]? = some u := by rw [Int.toNat_natCast]; exact hu
      cases hv : validU u with
      | true =>
        have hn : (!validU u) = false := by rw [hv]; rfl
        refine wc_skip ?_
        refine seq_n ?_
        refine wc_seq ?_
        refine wc_block ?_
        refine wc_seq ?_
        refine wc_region ?_
        refine reg_quiet rfl (index_arr tab_ok rfl rfl rfl rfl rfl (by omega) (by assumption)) ?_
        refine reg_quiet rfl (load_i tab_ok rfl rfl) ?_
        refine reg_new (step_C tab_ok (fun K hk => hk)) rfl ?_
        refine reg_store (store_row tab_ok rfl rfl rfl ⟨_, ⟨rfl, rfl, rfl⟩, rfl⟩ rfl) ?_
        refine reg_nil ?_
        refine seq_n ?_
        refine wc_seq ?_
        refine wc_region ?_
        refine reg_quiet rfl (load_box tab_ok rfl rfl rfl rfl) ?_
        refine reg_quiet rfl (call_r (valid_is u) rfl rfl (arg_e arg_nil) (.inl rfl) (fun _ => rfl)) ?_
        refine reg_quiet rfl (step_C tab_ok (fun K hk => hk)) ?_
        refine reg_nil ?_
        refine seq_n ?_
        refine wc_false rfl (by assumption) ?_
        refine wc_skip ?_
        refine blk_n ?_
        refine seq_n ?_
        refine wc_region ?_
        refine reg_quiet rfl (add_int tab_ok rfl rfl (wrap_i64 (by omega) (by omega))) ?_
        refine reg_quiet rfl (step_C tab_ok (fun K hk => hk)) ?_
        refine reg_nil ?_
        refine loop_n (i + 1) [] (hinv.go hu hv) (by omega) ?_
        exact .of rfl rfl rfl rfl rfl ⟨⟨_, rfl, .refl _⟩, rfl, ⟨_, rfl, .refl _⟩, rfl, ⟨_, rfl, .refl _⟩, rfl, trivial⟩ trivial
      | false =>
        have hn : (!validU u) = true := by rw [hv]; rfl
        refine wc_skip ?_
        refine seq_n ?_
        refine wc_seq ?_
        refine wc_block ?_
        refine wc_seq ?_
        refine wc_region ?_
        refine reg_quiet rfl (index_arr tab_ok rfl rfl rfl rfl rfl (by omega) (by assumption)) ?_
        refine reg_quiet rfl (load_i tab_ok rfl rfl) ?_
        refine reg_new (step_C tab_ok (fun K hk => hk)) rfl ?_
        refine reg_store (store_row tab_ok rfl rfl rfl ⟨_, ⟨rfl, rfl, rfl⟩, rfl⟩ rfl) ?_
        refine reg_nil ?_
        refine seq_n ?_
        refine wc_seq ?_
        refine wc_region ?_
        refine reg_quiet rfl (load_box tab_ok rfl rfl rfl rfl) ?_
        refine reg_quiet rfl (call_r (valid_is u) rfl rfl (arg_e arg_nil) (.inl rfl) (fun _ => rfl)) ?_
        refine reg_quiet rfl (step_C tab_ok (fun K hk => hk)) ?_
        refine reg_nil ?_
        refine seq_n ?_
        refine wc_true rfl (by assumption) ?_
        refine wc_seq ?_
        refine wc_region ?_
        refine reg_quiet rfl (step_C tab_ok (fun K hk => hk)) ?_
        refine reg_nil ?_
        refine seq_n ?_
        refine wc_ret ?_
        refine blk_r ?_
        refine seq_r ?_
        refine loop_r ?_
        refine blk_r ?_
        refine seq_r ?_
        refine ⟨trivial, [], .of rfl rfl rfl rfl rfl ⟨⟨_, rfl, AVLe.of_eq ?_⟩, rfl, trivial⟩ trivial⟩
        rw [hc, AllTo.bad hu hv]
        rfl
    · have he : i = l.length := by have := of_decide_eq_false h2; omega
      refine wc_exit ?_
      refine seq_x ?_
      refine loop_x ?_
      refine blk_x ?_
      refine seq_n ?_
      refine wc_seq ?_
      refine wc_region ?_
      refine reg_quiet rfl (step_C tab_ok (fun K hk => hk)) ?_
      refine reg_nil ?_
      refine seq_n ?_
      refine wc_ret ?_
      refine ⟨trivial, [], .of rfl rfl rfl rfl rfl ⟨⟨_, rfl, AVLe.of_eq ?_⟩, rfl, trivial⟩ trivial⟩
      rw [hc, hinv.end he]
      rfl
theorem refcheck_is (l : List LUse) : FnIs Try.prog 36 [.d (.arr 20 encUse l)] [] (.int .i64 (chkL l)) [] := by
  refine fnIs_of tab_ok Try.func36 rfl rfl rfl ?_
  refine wc_seq ?_
  refine wc_region ?_
  refine reg_quiet rfl (step_C tab_ok (fun K hk => hk)) ?_
  refine reg_nil ?_
  refine seq_n ?_
  refine wc_seq ?_
  refine wc_seq ?_
  refine wc_region ?_
  refine reg_quiet rfl (step_C tab_ok (fun K hk => hk)) ?_
  refine reg_quiet rfl (len_arr tab_ok rfl rfl) ?_
  refine reg_quiet rfl (step_C tab_ok (fun K hk => hk)) ?_
  refine reg_nil ?_
  refine seq_n ?_
  refine wc_cond rfl (fun h1 => ?_) (fun h1 => ?_)
  · refine wc_seq ?_
    refine wc_region ?_
    refine reg_quiet rfl (step_C tab_ok (fun K hk => hk)) ?_
    refine reg_nil ?_
    refine seq_n ?_
    refine wc_ret ?_
    refine seq_r ?_
    exact ⟨trivial, [], .of rfl rfl rfl rfl rfl ⟨⟨_, rfl, AVLe.of_eq (by rw [chkL, if_pos (by simpa using h1)]; rfl)⟩, rfl, trivial⟩ trivial⟩
  · have hL : l.length ≤ 65536 := by have := of_decide_eq_false h1; omega
    have hc : chkL l = if l.all validU = true then 0 else 1 := by rw [chkL, if_neg (by simpa using h1)]
    refine wc_skip ?_
    refine seq_n ?_
    refine wc_seq ?_
    refine wc_seq ?_
    refine wc_region ?_
    refine reg_quiet rfl (step_C tab_ok (fun K hk => hk)) ?_
    refine reg_nil ?_
    refine seq_n ?_
    refine wc_block ?_
    refine wc_inv (fun i : Nat => ⟨[(3, .int .i64 i), (0, .d (.arr 20 encUse l))], [], 72, Try.f36.ntmps, 64⟩) (AllTo l) (fun i => l.length - i) 0 [] (AllTo.zero l)
      (.of rfl rfl rfl rfl rfl ⟨⟨_, rfl, .refl _⟩, rfl, ⟨_, rfl, .refl _⟩, rfl, trivial⟩ trivial) ?_
    intro i hinv
    have hi := hinv.le
    refine wc_of ?_
    refine wc_seq ?_
    refine wc_seq ?_
    refine wc_region ?_
    refine reg_quiet rfl (step_C tab_ok (fun K hk => hk)) ?_
    refine reg_quiet rfl (step_C tab_ok (fun K hk => hk)) ?_
    refine reg_quiet rfl (len_arr tab_ok rfl rfl) ?_
    refine reg_quiet rfl (step_C tab_ok (fun K hk => hk)) ?_
    refine reg_nil ?_
    refine seq_n ?_
    refine wc_cond rfl (fun h2 => ?_) (fun h2 => ?_)
    · have hlt : i < l.length := by have := of_decide_eq_true h2; omega
      obtain ⟨u, hu⟩ : ∃ u, l[i]? = some u := ⟨_, List.getElem?_eq_getElem hlt⟩
      have hu' : l[((i : Int)).toNat]? = some u := by rw [Int.toNat_natCast]; exact hu
      refine wc_skip ?_
      refine seq_n ?_
      refine wc_seq ?_
      refine wc_block ?_
      refine wc_seq ?_
      refine wc_draw (by kernel_rfl) ?_
      refine dreg_q [0] [] rfl (step_C tab_ok (fun K hk => hk)) ?_
      refine dreg_q [3] [] rfl (step_C tab_ok (fun K hk => hk)) ?_
      refine dreg_q [13, 14] [] rfl (index_arr tab_ok rfl rfl rfl rfl rfl (by omega) (by assumption)) ?_
      refine dreg_q [15] [] rfl (step_C tab_ok (fun K hk => hk)) ?_
      refine dreg_q [16] [] rfl (step_C tab_ok (fun K hk => hk)) ?_
      refine dreg_q [17] [] rfl (load_i tab_ok rfl rfl) ?_
      refine dreg_q [0] [] rfl (step_C tab_ok (fun K hk => hk)) ?_
      refine dreg_q [3] [] rfl (step_C tab_ok (fun K hk => hk)) ?_
      refine dreg_q [19, 20] [] rfl (index_arr tab_ok rfl rfl rfl rfl rfl (by omega) (by assumption)) ?_
      refine dreg_q [21] [] rfl (step_C tab_ok (fun K hk => hk)) ?_
      refine dreg_q [22] [] rfl (step_C tab_ok (fun K hk => hk)) ?_
      refine dreg_q [23] [] rfl (load_i tab_ok rfl rfl) ?_
      refine dreg_q [18, 24] [] rfl (step_C tab_ok (fun K hk => hk)) ?_
      refine dreg_end (by kernel_rfl) ?_
      refine seq_n ?_
      refine wc_cond rfl (fun h3 => ?_) (fun h3 => ?_)
      · refine wc_seq ?_
        refine wc_region ?_
        refine reg_quiet rfl (step_C tab_ok (fun K hk => hk)) ?_
        refine reg_nil ?_
        refine seq_n ?_
        refine wc_ret ?_
        refine blk_r ?_
        refine seq_r ?_
        refine loop_r ?_
        refine blk_r ?_
        refine seq_r ?_
        refine ⟨trivial, [], .of rfl rfl rfl rfl rfl ⟨⟨_, rfl, AVLe.of_eq ?_⟩, rfl, trivial⟩ trivial⟩
        rw [hc, AllTo.bad hu (by have := of_decide_eq_true h3; exact decide_eq_false (by omega))]
        rfl
      · refine wc_skip ?_
        refine blk_n ?_
        refine seq_n ?_
        refine wc_region ?_
        refine reg_quiet rfl (step_C tab_ok (fun K hk => hk)) ?_
        refine reg_quiet rfl (add_int tab_ok rfl rfl (wrap_i64 (by omega) (by omega))) ?_
        refine reg_quiet rfl (step_C tab_ok (fun K hk => hk)) ?_
        refine reg_nil ?_
        refine loop_n (i + 1) [] (hinv.go hu (by have := of_decide_eq_false h3; exact decide_eq_true (by omega))) (by omega) ?_
        exact .of rfl rfl rfl rfl rfl ⟨⟨_, rfl, .refl _⟩, rfl, ⟨_, rfl, .refl _⟩, rfl, trivial⟩ trivial
    · have he : i = l.length := by have := of_decide_eq_false h2; omega
      refine wc_exit ?_
      refine seq_x ?_
      refine loop_x ?_
      refine blk_x ?_
      refine seq_n ?_
      refine wc_seq ?_
      refine wc_region ?_
      refine reg_quiet rfl (step_C tab_ok (fun K hk => hk)) ?_
      refine reg_nil ?_
      refine seq_n ?_
      refine wc_ret ?_
      refine ⟨trivial, [], .of rfl rfl rfl rfl rfl ⟨⟨_, rfl, AVLe.of_eq ?_⟩, rfl, trivial⟩ trivial⟩
      rw [hc, hinv.end he]
      rfl
/-- Do ranges overlap? -/
def overL (a b : LRange) : Bool := if decide (a.first > a.last) || decide (b.first > b.last) then false else decide (a.nonce = b.nonce) && decide (max a.first b.first ≤ min a.last b.last)
theorem overlap_is (a b : LRange) : FnIs Try.prog 71 [.d (encLR a), .d (encLR b)] [] (.bool (overL a b)) [] := by
  refine fnIs_of tab_ok Try.func71 rfl rfl rfl ?_
  refine wc_seq ?_
  refine wc_region ?_
  refine reg_new (step_C tab_ok (fun K hk => hk)) rfl ?_
  refine reg_new (step_C tab_ok (fun K hk => hk)) rfl ?_
  refine reg_quiet rfl (step_C tab_ok (fun K hk => hk)) ?_
  refine reg_nil ?_
  refine seq_n ?_
  refine wc_seq ?_
  refine wc_seq_cut 16 (.bool (decide (a.first > a.last) || decide (b.first > b.last))) _ rfl ?_ ?_
  · refine reg_quiet rfl (step_C tab_ok (fun K hk => hk)) ?_
    refine reg_quiet rfl (load_box tab_ok rfl rfl ⟨_, rfl, rfl⟩ rfl) ?_
    refine reg_quiet rfl (step_C tab_ok (fun K hk => hk)) ?_
    refine reg_quiet rfl (load_box tab_ok rfl rfl ⟨_, rfl, rfl⟩ rfl) ?_
    refine reg_quiet rfl (step_C tab_ok (fun K hk => hk)) ?_
    refine reg_quiet rfl (step_C tab_ok (fun K hk => hk)) ?_
    refine reg_split rfl rfl rfl (fun hb => ?_) (fun hb => ?_)
    refine reg_on rfl rfl (by assumption) ?_
    refine reg_quiet rfl (step_C tab_ok (fun K hk => hk)) ?_
    refine reg_on rfl rfl (by assumption) ?_
    refine reg_quiet rfl (load_box tab_ok rfl rfl ⟨_, rfl, rfl⟩ rfl) ?_
    refine reg_on rfl rfl (by assumption) ?_
    refine reg_quiet rfl (step_C tab_ok (fun K hk => hk)) ?_
    refine reg_on rfl rfl (by assumption) ?_
    refine reg_quiet rfl (load_box tab_ok rfl rfl ⟨_, rfl, rfl⟩ rfl) ?_
    refine reg_on rfl rfl (by assumption) ?_
    refine reg_quiet rfl (step_C tab_ok (fun K hk => hk)) ?_
    refine reg_quiet rfl (pick_F tab_ok rfl (by assumption) rfl) ?_
    rotate_left
    refine reg_skip rfl rfl (by assumption) rfl rfl ?_
    refine reg_skip rfl rfl (by assumption) rfl rfl ?_
    refine reg_skip rfl rfl (by assumption) rfl rfl ?_
    refine reg_skip rfl rfl (by assumption) rfl rfl ?_
    refine reg_skip rfl rfl (by assumption) rfl rfl ?_
    refine reg_quiet rfl (pick_T tab_ok rfl (by assumption) rfl) ?_
    rotate_left
    all_goals refine reg_cut 12 rfl rfl rfl rfl rfl rfl rfl rfl rfl (AVLe.of_eq ?_)
    all_goals (first | rfl | (clear q5; simp_all; done) | (simp_all; done) | (simp_all; omega))
  refine wc_cond rfl (fun h1 => ?_) (fun h1 => ?_)
  · refine wc_seq ?_
    refine wc_region ?_
    refine reg_quiet rfl (step_C tab_ok (fun K hk => hk)) ?_
    refine reg_nil ?_
    refine seq_n ?_
    refine wc_ret ?_
    refine seq_r ?_
    exact ⟨trivial, [], .of rfl rfl rfl rfl rfl ⟨⟨_, rfl, AVLe.of_eq (by rw [overL, if_pos h1]; rfl)⟩, rfl, trivial⟩ trivial⟩
  · cases hk : decide (a.nonce = b.nonce) with
    | true =>
      refine wc_skip ?_
      refine seq_n ?_
      refine wc_seq ?_
      refine wc_region ?_
      refine reg_quiet rfl (step_C tab_ok (fun K hk => hk)) ?_
      refine reg_quiet rfl (load_box tab_ok rfl rfl ⟨_, rfl, rfl⟩ rfl) ?_
      refine reg_quiet rfl (step_C tab_ok (fun K hk => hk)) ?_
      refine reg_quiet rfl (load_box tab_ok rfl rfl ⟨_, rfl, rfl⟩ rfl) ?_
      refine reg_quiet rfl (eql_data rfl rfl rfl rfl (by kernel_rfl) (by decide) (ln_eq _ _)) ?_
      refine reg_quiet rfl (step_C tab_ok (fun K hk => hk)) ?_
      refine reg_on rfl rfl (by assumption) ?_
      refine reg_quiet rfl (step_C tab_ok (fun K hk => hk)) ?_
      refine reg_on rfl rfl (by assumption) ?_
      refine reg_quiet rfl (load_box tab_ok rfl rfl ⟨_, rfl, rfl⟩ rfl) ?_
      refine reg_on rfl rfl (by assumption) ?_
      refine reg_quiet rfl (step_C tab_ok (fun K hk => hk)) ?_
      refine reg_on rfl rfl (by assumption) ?_
      refine reg_quiet rfl (load_box tab_ok rfl rfl ⟨_, rfl, rfl⟩ rfl) ?_
      refine reg_on rfl rfl (by assumption) ?_
      refine reg_quiet rfl (max_int rfl rfl rfl) ?_
      refine reg_on rfl rfl (by assumption) ?_
      refine reg_quiet rfl (step_C tab_ok (fun K hk => hk)) ?_
      refine reg_on rfl rfl (by assumption) ?_
      refine reg_quiet rfl (load_box tab_ok rfl rfl ⟨_, rfl, rfl⟩ rfl) ?_
      refine reg_on rfl rfl (by assumption) ?_
      refine reg_quiet rfl (step_C tab_ok (fun K hk => hk)) ?_
      refine reg_on rfl rfl (by assumption) ?_
      refine reg_quiet rfl (load_box tab_ok rfl rfl ⟨_, rfl, rfl⟩ rfl) ?_
      refine reg_on rfl rfl (by assumption) ?_
      refine reg_quiet rfl (min_int rfl rfl rfl) ?_
      refine reg_on rfl rfl (by assumption) ?_
      refine reg_quiet rfl (step_C tab_ok (fun K hk => hk)) ?_
      refine reg_quiet rfl (pick_T tab_ok rfl (by assumption) rfl) ?_
      refine reg_quiet rfl (step_C tab_ok (fun K hk => hk)) ?_
      refine reg_nil ?_
      refine seq_n ?_
      refine wc_ret ?_
      exact ⟨trivial, [], .of rfl rfl rfl rfl rfl ⟨⟨_, rfl, AVLe.of_eq (by rw [overL, if_neg (by rw [h1]; simp), hk]; rfl)⟩, rfl, trivial⟩ trivial⟩
    | false =>
      refine wc_skip ?_
      refine seq_n ?_
      refine wc_seq ?_
      refine wc_region ?_
      refine reg_quiet rfl (step_C tab_ok (fun K hk => hk)) ?_
      refine reg_quiet rfl (load_box tab_ok rfl rfl ⟨_, rfl, rfl⟩ rfl) ?_
      refine reg_quiet rfl (step_C tab_ok (fun K hk => hk)) ?_
      refine reg_quiet rfl (load_box tab_ok rfl rfl ⟨_, rfl, rfl⟩ rfl) ?_
      refine reg_quiet rfl (eql_data rfl rfl rfl rfl (by kernel_rfl) (by decide) (ln_eq _ _)) ?_
      refine reg_quiet rfl (step_C tab_ok (fun K hk => hk)) ?_
      refine reg_skip rfl rfl (by assumption) rfl rfl ?_
      refine reg_skip rfl rfl (by assumption) rfl rfl ?_
      refine reg_skip rfl rfl (by assumption) rfl rfl ?_
      refine reg_skip rfl rfl (by assumption) rfl rfl ?_
      refine reg_skip rfl rfl (by assumption) rfl rfl ?_
      refine reg_skip rfl rfl (by assumption) rfl rfl ?_
      refine reg_skip rfl rfl (by assumption) rfl rfl ?_
      refine reg_skip rfl rfl (by assumption) rfl rfl ?_
      refine reg_skip rfl rfl (by assumption) rfl rfl ?_
      refine reg_skip rfl rfl (by assumption) rfl rfl ?_
      refine reg_skip rfl rfl (by assumption) rfl rfl ?_
      refine reg_quiet rfl (pick_F tab_ok rfl (by assumption) rfl) ?_
      refine reg_quiet rfl (step_C tab_ok (fun K hk => hk)) ?_
      refine reg_nil ?_
      refine seq_n ?_
      refine wc_ret ?_
      exact ⟨trivial, [], .of rfl rfl rfl rfl rfl ⟨⟨_, rfl, AVLe.of_eq (by rw [overL, if_neg (by rw [h1]; simp), hk]; rfl)⟩, rfl, trivial⟩ trivial⟩
/-- The definition's overlap. -/
def overR (n m : LNonce) (a b c d : Int) : Bool := if (!decide (n = m) || decide (a > b)) || decide (c > d) then false else (decide (a ≥ c) && decide (a ≤ d)) || (decide (c ≥ a) && decide (c ≤ b))
abbrev encPair (a b : Int) : D := .vec 2 1 (fun x => u32s x) [a, b]
theorem refover_is (n m : LNonce) (a b c d : Int) : FnIs Try.prog 72 [.d (encLN n), .d (encLN m), .d (encPair a b), .d (encPair c d)] [] (.bool (overR n m a b c d)) [] := by
  refine fnIs_of tab_ok Try.func72 rfl rfl rfl ?_
  refine wc_seq ?_
  refine wc_region ?_
  refine reg_new (step_C tab_ok (fun K hk => hk)) rfl ?_
  refine reg_new (step_C tab_ok (fun K hk => hk)) rfl ?_
  refine reg_new (step_C tab_ok (fun K hk => hk)) rfl ?_
  refine reg_new (step_C tab_ok (fun K hk => hk)) rfl ?_
  refine reg_quiet rfl (step_C tab_ok (fun K hk => hk)) ?_
  refine reg_nil ?_
  refine seq_n ?_
  refine wc_seq ?_
  refine wc_seq_cut 25 (.bool ((!decide (n = m) || decide (a > b)) || decide (c > d))) _ rfl ?_ ?_
  · refine reg_quiet rfl (load_box tab_ok rfl rfl rfl rfl) ?_
    refine reg_quiet rfl (load_box tab_ok rfl rfl rfl rfl) ?_
    refine reg_quiet rfl (neq_data rfl rfl rfl rfl (by kernel_rfl) (by decide) (ln_eq _ _)) ?_
    refine reg_quiet rfl (step_C tab_ok (fun K hk => hk)) ?_
    refine reg_split rfl rfl rfl (fun hb => ?_) (fun hb => ?_)
    refine reg_on rfl rfl (by assumption) ?_
    refine reg_quiet rfl (step_C tab_ok (fun K hk => ⟨by omega, by omega, hk⟩)) ?_
    refine reg_on rfl rfl (by assumption) ?_
    refine reg_quiet rfl (load_row tab_ok rfl rfl ⟨_, ⟨rfl, _, rfl, rfl⟩, rfl⟩ rfl) ?_
    refine reg_on rfl rfl (by assumption) ?_
    refine reg_quiet rfl (step_C tab_ok (fun K hk => ⟨by omega, by omega, hk⟩)) ?_
    refine reg_on rfl rfl (by assumption) ?_
    refine reg_quiet rfl (load_row tab_ok rfl rfl ⟨_, ⟨rfl, _, rfl, rfl⟩, rfl⟩ rfl) ?_
    refine reg_on rfl rfl (by assumption) ?_
    refine reg_quiet rfl (step_C tab_ok (fun K hk => hk)) ?_
    refine reg_quiet rfl (pick_F tab_ok rfl (by assumption) rfl) ?_
    refine reg_quiet rfl (step_C tab_ok (fun K hk => hk)) ?_
    refine reg_split rfl rfl rfl (fun hb => ?_) (fun hb => ?_)
    refine reg_on rfl rfl (by assumption) ?_
    refine reg_quiet rfl (step_C tab_ok (fun K hk => ⟨by omega, by omega, hk⟩)) ?_
    refine reg_on rfl rfl (by assumption) ?_
    refine reg_quiet rfl (load_row tab_ok rfl rfl ⟨_, ⟨rfl, _, rfl, rfl⟩, rfl⟩ rfl) ?_
    refine reg_on rfl rfl (by assumption) ?_
    refine reg_quiet rfl (step_C tab_ok (fun K hk => ⟨by omega, by omega, hk⟩)) ?_
    refine reg_on rfl rfl (by assumption) ?_
    refine reg_quiet rfl (load_row tab_ok rfl rfl ⟨_, ⟨rfl, _, rfl, rfl⟩, rfl⟩ rfl) ?_
    refine reg_on rfl rfl (by assumption) ?_
    refine reg_quiet rfl (step_C tab_ok (fun K hk => hk)) ?_
    refine reg_quiet rfl (pick_F tab_ok rfl (by assumption) rfl) ?_
    rotate_left
    refine reg_skip rfl rfl (by assumption) rfl rfl ?_
    refine reg_skip rfl rfl (by assumption) rfl rfl ?_
    refine reg_skip rfl rfl (by assumption) rfl rfl ?_
    refine reg_skip rfl rfl (by assumption) rfl rfl ?_
    refine reg_skip rfl rfl (by assumption) rfl rfl ?_
    refine reg_quiet rfl (pick_T tab_ok rfl (by assumption) rfl) ?_
    rotate_left
    refine reg_skip rfl rfl (by assumption) rfl rfl ?_
    refine reg_skip rfl rfl (by assumption) rfl rfl ?_
    refine reg_skip rfl rfl (by assumption) rfl rfl ?_
    refine reg_skip rfl rfl (by assumption) rfl rfl ?_
    refine reg_skip rfl rfl (by assumption) rfl rfl ?_
    refine reg_quiet rfl (pick_T tab_ok rfl (by assumption) rfl) ?_
    refine reg_quiet rfl (step_C tab_ok (fun K hk => hk)) ?_
    refine reg_skip rfl rfl rfl rfl rfl ?_
    refine reg_skip rfl rfl rfl rfl rfl ?_
    refine reg_skip rfl rfl rfl rfl rfl ?_
    refine reg_skip rfl rfl rfl rfl rfl ?_
    refine reg_skip rfl rfl rfl rfl rfl ?_
    refine reg_quiet rfl (pick_T tab_ok rfl rfl rfl) ?_
    rotate_left
    all_goals refine reg_cut 17 rfl rfl rfl rfl rfl rfl rfl rfl rfl (AVLe.of_eq ?_)
    all_goals (first | rfl | (clear q5; simp_all; done) | (simp_all; done) | (simp_all; omega))
  refine wc_cond rfl (fun h1 => ?_) (fun h1 => ?_)
  · refine wc_seq ?_
    refine wc_region ?_
    refine reg_quiet rfl (step_C tab_ok (fun K hk => hk)) ?_
    refine reg_nil ?_
    refine seq_n ?_
    refine wc_ret ?_
    refine seq_r ?_
    exact ⟨trivial, [], .of rfl rfl rfl rfl rfl ⟨⟨_, rfl, AVLe.of_eq (by rw [overR, if_pos h1]; rfl)⟩, rfl, trivial⟩ trivial⟩
  · cases k1 : decide (a ≥ c) with
    | true =>
      cases k2 : decide (a ≤ d) with
      | true =>
        refine wc_skip ?_
        refine seq_n ?_
        refine wc_seq ?_
        refine wc_region ?_
        refine reg_quiet rfl (step_C tab_ok (fun K hk => ⟨by omega, by omega, hk⟩)) ?_
        refine reg_quiet rfl (load_row tab_ok rfl rfl ⟨_, ⟨rfl, _, rfl, rfl⟩, rfl⟩ rfl) ?_
        refine reg_quiet rfl (step_C tab_ok (fun K hk => ⟨by omega, by omega, hk⟩)) ?_
        refine reg_quiet rfl (load_row tab_ok rfl rfl ⟨_, ⟨rfl, _, rfl, rfl⟩, rfl⟩ rfl) ?_
        refine reg_quiet rfl (step_C tab_ok (fun K hk => hk)) ?_
        refine reg_quiet rfl (step_C tab_ok (fun K hk => hk)) ?_
        refine reg_on rfl rfl (by assumption) ?_
        refine reg_quiet rfl (step_C tab_ok (fun K hk => ⟨by omega, by omega, hk⟩)) ?_
        refine reg_on rfl rfl (by assumption) ?_
        refine reg_quiet rfl (load_row tab_ok rfl rfl ⟨_, ⟨rfl, _, rfl, rfl⟩, rfl⟩ rfl) ?_
        refine reg_on rfl rfl (by assumption) ?_
        refine reg_quiet rfl (step_C tab_ok (fun K hk => ⟨by omega, by omega, hk⟩)) ?_
        refine reg_on rfl rfl (by assumption) ?_
        refine reg_quiet rfl (load_row tab_ok rfl rfl ⟨_, ⟨rfl, _, rfl, rfl⟩, rfl⟩ rfl) ?_
        refine reg_on rfl rfl (by assumption) ?_
        refine reg_quiet rfl (step_C tab_ok (fun K hk => hk)) ?_
        refine reg_quiet rfl (pick_T tab_ok rfl (by assumption) rfl) ?_
        refine reg_quiet rfl (step_C tab_ok (fun K hk => hk)) ?_
        refine reg_skip rfl rfl (by assumption) rfl rfl ?_
        refine reg_skip rfl rfl (by assumption) rfl rfl ?_
        refine reg_skip rfl rfl (by assumption) rfl rfl ?_
        refine reg_skip rfl rfl (by assumption) rfl rfl ?_
        refine reg_skip rfl rfl (by assumption) rfl rfl ?_
        refine reg_skip rfl rfl (by assumption) rfl rfl ?_
        refine reg_skipU rfl rfl rfl rfl ?_
        refine reg_skipU rfl rfl rfl rfl ?_
        refine reg_skipU rfl rfl rfl rfl ?_
        refine reg_skipU rfl rfl rfl rfl ?_
        refine reg_skipU rfl rfl rfl rfl ?_
        refine reg_skip rfl rfl (by assumption) rfl rfl ?_
        refine reg_quiet rfl (pick_T tab_ok rfl (by assumption) rfl) ?_
        refine reg_quiet rfl (step_C tab_ok (fun K hk => hk)) ?_
        refine reg_nil ?_
        refine seq_n ?_
        refine wc_ret ?_
        exact ⟨trivial, [], .of rfl rfl rfl rfl rfl ⟨⟨_, rfl, AVLe.of_eq (by rw [overR, if_neg (by rw [h1]; simp), k1, k2]; rfl)⟩, rfl, trivial⟩ trivial⟩
      | false =>
        cases k3 : decide (c ≥ a) with
        | true =>
          refine wc_skip ?_
          refine seq_n ?_
          refine wc_seq ?_
          refine wc_region ?_
          refine reg_quiet rfl (step_C tab_ok (fun K hk => ⟨by omega, by omega, hk⟩)) ?_
          refine reg_quiet rfl (load_row tab_ok rfl rfl ⟨_, ⟨rfl, _, rfl, rfl⟩, rfl⟩ rfl) ?_
          refine reg_quiet rfl (step_C tab_ok (fun K hk => ⟨by omega, by omega, hk⟩)) ?_
          refine reg_quiet rfl (load_row tab_ok rfl rfl ⟨_, ⟨rfl, _, rfl, rfl⟩, rfl⟩ rfl) ?_
          refine reg_quiet rfl (step_C tab_ok (fun K hk => hk)) ?_
          refine reg_quiet rfl (step_C tab_ok (fun K hk => hk)) ?_
          refine reg_on rfl rfl (by assumption) ?_
          refine reg_quiet rfl (step_C tab_ok (fun K hk => ⟨by omega, by omega, hk⟩)) ?_
          refine reg_on rfl rfl (by assumption) ?_
          refine reg_quiet rfl (load_row tab_ok rfl rfl ⟨_, ⟨rfl, _, rfl, rfl⟩, rfl⟩ rfl) ?_
          refine reg_on rfl rfl (by assumption) ?_
          refine reg_quiet rfl (step_C tab_ok (fun K hk => ⟨by omega, by omega, hk⟩)) ?_
          refine reg_on rfl rfl (by assumption) ?_
          refine reg_quiet rfl (load_row tab_ok rfl rfl ⟨_, ⟨rfl, _, rfl, rfl⟩, rfl⟩ rfl) ?_
          refine reg_on rfl rfl (by assumption) ?_
          refine reg_quiet rfl (step_C tab_ok (fun K hk => hk)) ?_
          refine reg_quiet rfl (pick_T tab_ok rfl (by assumption) rfl) ?_
          refine reg_quiet rfl (step_C tab_ok (fun K hk => hk)) ?_
          refine reg_on rfl rfl (by assumption) ?_
          refine reg_quiet rfl (step_C tab_ok (fun K hk => ⟨by omega, by omega, hk⟩)) ?_
          refine reg_on rfl rfl (by assumption) ?_
          refine reg_quiet rfl (load_row tab_ok rfl rfl ⟨_, ⟨rfl, _, rfl, rfl⟩, rfl⟩ rfl) ?_
          refine reg_on rfl rfl (by assumption) ?_
          refine reg_quiet rfl (step_C tab_ok (fun K hk => ⟨by omega, by omega, hk⟩)) ?_
          refine reg_on rfl rfl (by assumption) ?_
          refine reg_quiet rfl (load_row tab_ok rfl rfl ⟨_, ⟨rfl, _, rfl, rfl⟩, rfl⟩ rfl) ?_
          refine reg_on rfl rfl (by assumption) ?_
          refine reg_quiet rfl (step_C tab_ok (fun K hk => hk)) ?_
          refine reg_on rfl rfl (by assumption) ?_
          refine reg_quiet rfl (step_C tab_ok (fun K hk => hk)) ?_
          refine reg_on rfl rfl (by assumption) ?_
          refine reg_quiet rfl (step_C tab_ok (fun K hk => ⟨by omega, by omega, hk⟩)) ?_
          refine reg_on rfl rfl (by assumption) ?_
          refine reg_quiet rfl (load_row tab_ok rfl rfl ⟨_, ⟨rfl, _, rfl, rfl⟩, rfl⟩ rfl) ?_
          refine reg_on rfl rfl (by assumption) ?_
          refine reg_quiet rfl (step_C tab_ok (fun K hk => ⟨by omega, by omega, hk⟩)) ?_
          refine reg_on rfl rfl (by assumption) ?_
          refine reg_quiet rfl (load_row tab_ok rfl rfl ⟨_, ⟨rfl, _, rfl, rfl⟩, rfl⟩ rfl) ?_
          refine reg_on rfl rfl (by assumption) ?_
          refine reg_quiet rfl (step_C tab_ok (fun K hk => hk)) ?_
          refine reg_on rfl rfl (by assumption) ?_
          refine reg_quiet rfl (pick_T tab_ok rfl (by assumption) rfl) ?_
          refine reg_quiet rfl (pick_F tab_ok rfl (by assumption) rfl) ?_
          refine reg_quiet rfl (step_C tab_ok (fun K hk => hk)) ?_
          refine reg_nil ?_
          refine seq_n ?_
          refine wc_ret ?_
          exact ⟨trivial, [], .of rfl rfl rfl rfl rfl ⟨⟨_, rfl, AVLe.of_eq (by rw [overR, if_neg (by rw [h1]; simp), k1, k2, k3]; rfl)⟩, rfl, trivial⟩ trivial⟩
        | false =>
          refine wc_skip ?_
          refine seq_n ?_
          refine wc_seq ?_
          refine wc_region ?_
          refine reg_quiet rfl (step_C tab_ok (fun K hk => ⟨by omega, by omega, hk⟩)) ?_
          refine reg_quiet rfl (load_row tab_ok rfl rfl ⟨_, ⟨rfl, _, rfl, rfl⟩, rfl⟩ rfl) ?_
          refine reg_quiet rfl (step_C tab_ok (fun K hk => ⟨by omega, by omega, hk⟩)) ?_
          refine reg_quiet rfl (load_row tab_ok rfl rfl ⟨_, ⟨rfl, _, rfl, rfl⟩, rfl⟩ rfl) ?_
          refine reg_quiet rfl (step_C tab_ok (fun K hk => hk)) ?_
          refine reg_quiet rfl (step_C tab_ok (fun K hk => hk)) ?_
          refine reg_on rfl rfl (by assumption) ?_
          refine reg_quiet rfl (step_C tab_ok (fun K hk => ⟨by omega, by omega, hk⟩)) ?_
          refine reg_on rfl rfl (by assumption) ?_
          refine reg_quiet rfl (load_row tab_ok rfl rfl ⟨_, ⟨rfl, _, rfl, rfl⟩, rfl⟩ rfl) ?_
          refine reg_on rfl rfl (by assumption) ?_
          refine reg_quiet rfl (step_C tab_ok (fun K hk => ⟨by omega, by omega, hk⟩)) ?_
          refine reg_on rfl rfl (by assumption) ?_
          refine reg_quiet rfl (load_row tab_ok rfl rfl ⟨_, ⟨rfl, _, rfl, rfl⟩, rfl⟩ rfl) ?_
          refine reg_on rfl rfl (by assumption) ?_
          refine reg_quiet rfl (step_C tab_ok (fun K hk => hk)) ?_
          refine reg_quiet rfl (pick_T tab_ok rfl (by assumption) rfl) ?_
          refine reg_quiet rfl (step_C tab_ok (fun K hk => hk)) ?_
          refine reg_on rfl rfl (by assumption) ?_
          refine reg_quiet rfl (step_C tab_ok (fun K hk => ⟨by omega, by omega, hk⟩)) ?_
          refine reg_on rfl rfl (by assumption) ?_
          refine reg_quiet rfl (load_row tab_ok rfl rfl ⟨_, ⟨rfl, _, rfl, rfl⟩, rfl⟩ rfl) ?_
          refine reg_on rfl rfl (by assumption) ?_
          refine reg_quiet rfl (step_C tab_ok (fun K hk => ⟨by omega, by omega, hk⟩)) ?_
          refine reg_on rfl rfl (by assumption) ?_
          refine reg_quiet rfl (load_row tab_ok rfl rfl ⟨_, ⟨rfl, _, rfl, rfl⟩, rfl⟩ rfl) ?_
          refine reg_on rfl rfl (by assumption) ?_
          refine reg_quiet rfl (step_C tab_ok (fun K hk => hk)) ?_
          refine reg_on rfl rfl (by assumption) ?_
          refine reg_quiet rfl (step_C tab_ok (fun K hk => hk)) ?_
          refine reg_skip rfl rfl (by assumption) rfl rfl ?_
          refine reg_skip rfl rfl (by assumption) rfl rfl ?_
          refine reg_skip rfl rfl (by assumption) rfl rfl ?_
          refine reg_skip rfl rfl (by assumption) rfl rfl ?_
          refine reg_skip rfl rfl (by assumption) rfl rfl ?_
          refine reg_on rfl rfl (by assumption) ?_
          refine reg_quiet rfl (pick_F tab_ok rfl (by assumption) rfl) ?_
          refine reg_quiet rfl (pick_F tab_ok rfl (by assumption) rfl) ?_
          refine reg_quiet rfl (step_C tab_ok (fun K hk => hk)) ?_
          refine reg_nil ?_
          refine seq_n ?_
          refine wc_ret ?_
          exact ⟨trivial, [], .of rfl rfl rfl rfl rfl ⟨⟨_, rfl, AVLe.of_eq (by rw [overR, if_neg (by rw [h1]; simp), k1, k2, k3]; rfl)⟩, rfl, trivial⟩ trivial⟩
    | false =>
      cases k3 : decide (c ≥ a) with
      | true =>
        refine wc_skip ?_
        refine seq_n ?_
        refine wc_seq ?_
        refine wc_region ?_
        refine reg_quiet rfl (step_C tab_ok (fun K hk => ⟨by omega, by omega, hk⟩)) ?_
        refine reg_quiet rfl (load_row tab_ok rfl rfl ⟨_, ⟨rfl, _, rfl, rfl⟩, rfl⟩ rfl) ?_
        refine reg_quiet rfl (step_C tab_ok (fun K hk => ⟨by omega, by omega, hk⟩)) ?_
        refine reg_quiet rfl (load_row tab_ok rfl rfl ⟨_, ⟨rfl, _, rfl, rfl⟩, rfl⟩ rfl) ?_
        refine reg_quiet rfl (step_C tab_ok (fun K hk => hk)) ?_
        refine reg_quiet rfl (step_C tab_ok (fun K hk => hk)) ?_
        refine reg_skip rfl rfl (by assumption) rfl rfl ?_
        refine reg_skip rfl rfl (by assumption) rfl rfl ?_
        refine reg_skip rfl rfl (by assumption) rfl rfl ?_
        refine reg_skip rfl rfl (by assumption) rfl rfl ?_
        refine reg_skip rfl rfl (by assumption) rfl rfl ?_
        refine reg_quiet rfl (pick_F tab_ok rfl (by assumption) rfl) ?_
        refine reg_quiet rfl (step_C tab_ok (fun K hk => hk)) ?_
        refine reg_on rfl rfl rfl ?_
        refine reg_quiet rfl (step_C tab_ok (fun K hk => ⟨by omega, by omega, hk⟩)) ?_
        refine reg_on rfl rfl rfl ?_
        refine reg_quiet rfl (load_row tab_ok rfl rfl ⟨_, ⟨rfl, _, rfl, rfl⟩, rfl⟩ rfl) ?_
        refine reg_on rfl rfl rfl ?_
        refine reg_quiet rfl (step_C tab_ok (fun K hk => ⟨by omega, by omega, hk⟩)) ?_
        refine reg_on rfl rfl rfl ?_
        refine reg_quiet rfl (load_row tab_ok rfl rfl ⟨_, ⟨rfl, _, rfl, rfl⟩, rfl⟩ rfl) ?_
        refine reg_on rfl rfl rfl ?_
        refine reg_quiet rfl (step_C tab_ok (fun K hk => hk)) ?_
        refine reg_on rfl rfl rfl ?_
        refine reg_quiet rfl (step_C tab_ok (fun K hk => hk)) ?_
        refine reg_on rfl rfl (by assumption) ?_
        refine reg_quiet rfl (step_C tab_ok (fun K hk => ⟨by omega, by omega, hk⟩)) ?_
        refine reg_on rfl rfl (by assumption) ?_
        refine reg_quiet rfl (load_row tab_ok rfl rfl ⟨_, ⟨rfl, _, rfl, rfl⟩, rfl⟩ rfl) ?_
        refine reg_on rfl rfl (by assumption) ?_
        refine reg_quiet rfl (step_C tab_ok (fun K hk => ⟨by omega, by omega, hk⟩)) ?_
        refine reg_on rfl rfl (by assumption) ?_
        refine reg_quiet rfl (load_row tab_ok rfl rfl ⟨_, ⟨rfl, _, rfl, rfl⟩, rfl⟩ rfl) ?_
        refine reg_on rfl rfl (by assumption) ?_
        refine reg_quiet rfl (step_C tab_ok (fun K hk => hk)) ?_
        refine reg_on rfl rfl rfl ?_
        refine reg_quiet rfl (pick_T tab_ok rfl (by assumption) rfl) ?_
        refine reg_quiet rfl (pick_F tab_ok rfl rfl rfl) ?_
        refine reg_quiet rfl (step_C tab_ok (fun K hk => hk)) ?_
        refine reg_nil ?_
        refine seq_n ?_
        refine wc_ret ?_
        exact ⟨trivial, [], .of rfl rfl rfl rfl rfl ⟨⟨_, rfl, AVLe.of_eq (by rw [overR, if_neg (by rw [h1]; simp), k1, k3]; rfl)⟩, rfl, trivial⟩ trivial⟩
      | false =>
        refine wc_skip ?_
        refine seq_n ?_
        refine wc_seq ?_
        refine wc_region ?_
        refine reg_quiet rfl (step_C tab_ok (fun K hk => ⟨by omega, by omega, hk⟩)) ?_
        refine reg_quiet rfl (load_row tab_ok rfl rfl ⟨_, ⟨rfl, _, rfl, rfl⟩, rfl⟩ rfl) ?_
        refine reg_quiet rfl (step_C tab_ok (fun K hk => ⟨by omega, by omega, hk⟩)) ?_
        refine reg_quiet rfl (load_row tab_ok rfl rfl ⟨_, ⟨rfl, _, rfl, rfl⟩, rfl⟩ rfl) ?_
        refine reg_quiet rfl (step_C tab_ok (fun K hk => hk)) ?_
        refine reg_quiet rfl (step_C tab_ok (fun K hk => hk)) ?_
        refine reg_skip rfl rfl (by assumption) rfl rfl ?_
        refine reg_skip rfl rfl (by assumption) rfl rfl ?_
        refine reg_skip rfl rfl (by assumption) rfl rfl ?_
        refine reg_skip rfl rfl (by assumption) rfl rfl ?_
        refine reg_skip rfl rfl (by assumption) rfl rfl ?_
        refine reg_quiet rfl (pick_F tab_ok rfl (by assumption) rfl) ?_
        refine reg_quiet rfl (step_C tab_ok (fun K hk => hk)) ?_
        refine reg_on rfl rfl rfl ?_
        refine reg_quiet rfl (step_C tab_ok (fun K hk => ⟨by omega, by omega, hk⟩)) ?_
        refine reg_on rfl rfl rfl ?_
        refine reg_quiet rfl (load_row tab_ok rfl rfl ⟨_, ⟨rfl, _, rfl, rfl⟩, rfl⟩ rfl) ?_
        refine reg_on rfl rfl rfl ?_
        refine reg_quiet rfl (step_C tab_ok (fun K hk => ⟨by omega, by omega, hk⟩)) ?_
        refine reg_on rfl rfl rfl ?_
        refine reg_quiet rfl (load_row tab_ok rfl rfl ⟨_, ⟨rfl, _, rfl, rfl⟩, rfl⟩ rfl) ?_
        refine reg_on rfl rfl rfl ?_
        refine reg_quiet rfl (step_C tab_ok (fun K hk => hk)) ?_
        refine reg_on rfl rfl rfl ?_
        refine reg_quiet rfl (step_C tab_ok (fun K hk => hk)) ?_
        refine reg_skip rfl rfl (by assumption) rfl rfl ?_
        refine reg_skip rfl rfl (by assumption) rfl rfl ?_
        refine reg_skip rfl rfl (by assumption) rfl rfl ?_
        refine reg_skip rfl rfl (by assumption) rfl rfl ?_
        refine reg_skip rfl rfl (by assumption) rfl rfl ?_
        refine reg_on rfl rfl rfl ?_
        refine reg_quiet rfl (pick_F tab_ok rfl (by assumption) rfl) ?_
        refine reg_quiet rfl (pick_F tab_ok rfl rfl rfl) ?_
        refine reg_quiet rfl (step_C tab_ok (fun K hk => hk)) ?_
        refine reg_nil ?_
        refine seq_n ?_
        refine wc_ret ?_
        exact ⟨trivial, [], .of rfl rfl rfl rfl rfl ⟨⟨_, rfl, AVLe.of_eq (by rw [overR, if_neg (by rw [h1]; simp), k1, k3]; rfl)⟩, rfl, trivial⟩ trivial⟩
end Go.Proofs.Ytjpjchohpjbknaa

/- Ledgers: Clash, Repeat, Count, same. -/
namespace Go.Proofs.Ytjpjchohpjbknaa
open Go.Eng
set_option maxHeartbeats 2000000
attribute [local irreducible] WC RegS RegD SeqQ BlkQ ScoQ RegK CutK Sat SatN FnIs LoopQ StepIs OpIs
/-- The first of some numbers at which there is something. -/
def firstS {β : Type} (f : Nat → Option β) : Nat → Option β
  | 0 => none
  | n + 1 => match firstS f n with
    | some b => some b
    | none => f n
theorem firstS_none {β : Type} {f : Nat → Option β} : ∀ {n : Nat}, (∀ j, j < n → f j = none) → firstS f n = none
  | 0, _ => rfl
  | n + 1, h => by
    have e : firstS f n = none := firstS_none fun j hj => h j (by omega)
    rw [firstS, e]
    exact h n (by omega)
theorem firstS_some {β : Type} {f : Nat → Option β} {j : Nat} {b : β} (hj : f j = some b) (hb : ∀ i, i < j → f i = none) : ∀ {n : Nat}, j < n → firstS f n = some b
  | 0, h => by omega
  | n + 1, h => by
    simp only [firstS]
    by_cases e : j = n
    · subst e
      rw [firstS_none hb]
      exact hj
    · rw [firstS_some hj hb (by omega)]
def clash (a b : LUse) : Bool := decide (a.key = b.key) && overR a.range.nonce b.range.nonce a.range.first a.range.last b.range.first b.range.last
def clashI (l : List LUse) (i j : Nat) : Bool := match l[i]?, l[j]? with
  | some a, some b => clash a b
  | _, _ => false
def clAt (l : List LUse) (j i : Nat) : Option (Nat × Nat) := if clashI l i j = true then some (i, j) else none
def repAt (l : List LUse) (j : Nat) : Option (Nat × Nat) := firstS (clAt l j) j
def repF (l : List LUse) : Option (Nat × Nat) := firstS (repAt l) l.length
theorem clAt_none {l : List LUse} {i j : Nat} (h : clashI l i j = false) : clAt l j i = none := by simp [clAt, h]
theorem clAt_some {l : List LUse} {i j : Nat} (h : clashI l i j = true) : clAt l j i = some (i, j) := by simp [clAt, h]
theorem repAt_none {l : List LUse} {j : Nat} (h : ∀ i, i < j → clashI l i j = false) : repAt l j = none := firstS_none fun i hi => clAt_none (h i hi)
theorem repF_none {l : List LUse} (h : ∀ j, j < l.length → ∀ i, i < j → clashI l i j = false) : repF l = none := firstS_none fun j hj => repAt_none (h j hj)
theorem repF_some {l : List LUse} {i j : Nat} (h : clashI l i j = true) (hi : ∀ i', i' < i → clashI l i' j = false) (hij : i < j) (hj : j < l.length) (hn : ∀ j', j' < j → ∀ i', i' < j' → clashI l i' j' = false) : repF l = some (i, j) :=
by
  have e : repAt l j = some (i, j) := firstS_some (clAt_some h) (fun i' hi' => clAt_none (hi i' hi')) hij
  exact firstS_some (f := repAt l) e (fun j' hj' => repAt_none (hn j' hj')) hj
def repI (l : List LUse) : Int × Int := match repF l with
  | some (i, j) => (i, j)
  | none => (-1, -1)
theorem pair_le (a b : Int) : DLe (.cons (u32s a) (.cons (u32s b) .nil)) (encPair a b) := DLe.chain_vec (enc := fun x => u32s x) (fun _ _ _ _ h => by rw [h.1]; rfl) [a, b] _ rfl
theorem clash_is (a b : LUse) : FnIs Try.prog 47 [.d (encUse a), .d (encUse b)] [] (.bool (clash a b)) [] := by
  unfold clash
  refine fnIs_of tab_ok Try.func47 rfl rfl rfl ?_
  cases hk : decide (a.key = b.key) with
  | true =>
    refine wc_seq ?_
    refine wc_region ?_
    refine reg_new (step_C tab_ok (fun K hk => hk)) rfl ?_
    refine reg_new (step_C tab_ok (fun K hk => hk)) rfl ?_
    refine reg_quiet rfl (step_C tab_ok (fun K hk => hk)) ?_
    refine reg_nil ?_
    refine seq_n ?_
    refine wc_seq ?_
    refine wc_region ?_
    refine reg_quiet rfl (step_C tab_ok (fun K hk => hk)) ?_
    refine reg_quiet rfl (load_box tab_ok rfl rfl ⟨_, rfl, rfl⟩ rfl) ?_
    refine reg_quiet rfl (step_C tab_ok (fun K hk => hk)) ?_
    refine reg_quiet rfl (load_box tab_ok rfl rfl ⟨_, rfl, rfl⟩ rfl) ?_
    refine reg_quiet rfl (eql_data rfl rfl rfl rfl (by kernel_rfl) (by decide) (lkey_eq _ _)) ?_
    refine reg_quiet rfl (step_C tab_ok (fun K hk => hk)) ?_
    refine reg_on rfl rfl (by assumption) ?_
    refine reg_quiet rfl (step_C tab_ok (fun K hk => hk)) ?_
    refine reg_on rfl rfl (by assumption) ?_
    refine reg_quiet rfl (step_C tab_ok (fun K hk => hk)) ?_
    refine reg_on rfl rfl (by assumption) ?_
    refine reg_quiet rfl (load_box tab_ok rfl rfl ⟨_, rfl, rfl⟩ rfl) ?_
    refine reg_on rfl rfl (by assumption) ?_
    refine reg_quiet rfl (step_C tab_ok (fun K hk => hk)) ?_
    refine reg_on rfl rfl (by assumption) ?_
    refine reg_quiet rfl (step_C tab_ok (fun K hk => hk)) ?_
    refine reg_on rfl rfl (by assumption) ?_
    refine reg_quiet rfl (load_box tab_ok rfl rfl ⟨_, rfl, rfl⟩ rfl) ?_
    refine reg_on rfl rfl (by assumption) ?_
    refine reg_quiet rfl (step_C tab_ok (fun K hk => hk)) ?_
    refine reg_on rfl rfl (by assumption) ?_
    refine reg_quiet rfl (step_C tab_ok (fun K hk => hk)) ?_
    refine reg_on rfl rfl (by assumption) ?_
    refine reg_quiet rfl (load_box tab_ok rfl rfl ⟨_, rfl, rfl⟩ rfl) ?_
    refine reg_on rfl rfl (by assumption) ?_
    refine reg_quiet rfl (step_C tab_ok (fun K hk => hk)) ?_
    refine reg_on rfl rfl (by assumption) ?_
    refine reg_quiet rfl (step_C tab_ok (fun K hk => hk)) ?_
    refine reg_on rfl rfl (by assumption) ?_
    refine reg_quiet rfl (load_box tab_ok rfl rfl ⟨_, rfl, rfl⟩ rfl) ?_
    refine reg_on rfl rfl (by assumption) ?_
    refine reg_quiet rfl (build_arr_of tab_ok rfl rfl rfl rfl rfl rfl rfl) ?_
    refine reg_on rfl rfl (by assumption) ?_
    refine reg_quiet rfl (step_C tab_ok (fun K hk => hk)) ?_
    refine reg_on rfl rfl (by assumption) ?_
    refine reg_quiet rfl (step_C tab_ok (fun K hk => hk)) ?_
    refine reg_on rfl rfl (by assumption) ?_
    refine reg_quiet rfl (load_box tab_ok rfl rfl ⟨_, rfl, rfl⟩ rfl) ?_
    refine reg_on rfl rfl (by assumption) ?_
    refine reg_quiet rfl (step_C tab_ok (fun K hk => hk)) ?_
    refine reg_on rfl rfl (by assumption) ?_
    refine reg_quiet rfl (step_C tab_ok (fun K hk => hk)) ?_
    refine reg_on rfl rfl (by assumption) ?_
    refine reg_quiet rfl (load_box tab_ok rfl rfl ⟨_, rfl, rfl⟩ rfl) ?_
    refine reg_on rfl rfl (by assumption) ?_
    refine reg_quiet rfl (build_arr_of tab_ok rfl rfl rfl rfl rfl rfl rfl) ?_
    refine reg_on rfl rfl (by assumption) ?_
    refine reg_quiet rfl (call_r (refover_is _ _ _ _ _ _) rfl rfl (arg_e (arg_e (arg_d rfl trivial (pair_le _ _) (arg_d rfl trivial (pair_le _ _) arg_nil)))) (.inl rfl) (fun _ => rfl)) ?_
    refine reg_quiet rfl (pick_T tab_ok rfl (by assumption) rfl) ?_
    refine reg_quiet rfl (step_C tab_ok (fun K hk => hk)) ?_
    refine reg_nil ?_
    refine seq_n ?_
    refine wc_ret ?_
    exact ⟨trivial, [], .of rfl rfl rfl rfl rfl ⟨⟨_, rfl, AVLe.of_eq rfl⟩, rfl, trivial⟩ trivial⟩
  | false =>
    refine wc_seq ?_
    refine wc_region ?_
    refine reg_new (step_C tab_ok (fun K hk => hk)) rfl ?_
    refine reg_new (step_C tab_ok (fun K hk => hk)) rfl ?_
    refine reg_quiet rfl (step_C tab_ok (fun K hk => hk)) ?_
    refine reg_nil ?_
    refine seq_n ?_
    refine wc_seq ?_
    refine wc_region ?_
    refine reg_quiet rfl (step_C tab_ok (fun K hk => hk)) ?_
    refine reg_quiet rfl (load_box tab_ok rfl rfl ⟨_, rfl, rfl⟩ rfl) ?_
    refine reg_quiet rfl (step_C tab_ok (fun K hk => hk)) ?_
    refine reg_quiet rfl (load_box tab_ok rfl rfl ⟨_, rfl, rfl⟩ rfl) ?_
    refine reg_quiet rfl (eql_data rfl rfl rfl rfl (by kernel_rfl) (by decide) (lkey_eq _ _)) ?_
    refine reg_quiet rfl (step_C tab_ok (fun K hk => hk)) ?_
    refine reg_skip rfl rfl (by assumption) rfl rfl ?_
    refine reg_skip rfl rfl (by assumption) rfl rfl ?_
    refine reg_skip rfl rfl (by assumption) rfl rfl ?_
    refine reg_skip rfl rfl (by assumption) rfl rfl ?_
    refine reg_skip rfl rfl (by assumption) rfl rfl ?_
    refine reg_skip rfl rfl (by assumption) rfl rfl ?_
    refine reg_skip rfl rfl (by assumption) rfl rfl ?_
    refine reg_skip rfl rfl (by assumption) rfl rfl ?_
    refine reg_skip rfl rfl (by assumption) rfl rfl ?_
    refine reg_skip rfl rfl (by assumption) rfl rfl ?_
    refine reg_skip rfl rfl (by assumption) rfl rfl ?_
    refine reg_skip rfl rfl (by assumption) rfl rfl ?_
    refine reg_skip rfl rfl (by assumption) rfl rfl ?_
    refine reg_skip rfl rfl (by assumption) rfl rfl ?_
    refine reg_skip rfl rfl (by assumption) rfl rfl ?_
    refine reg_skip rfl rfl (by assumption) rfl rfl ?_
    refine reg_skip rfl rfl (by assumption) rfl rfl ?_
    refine reg_skip rfl rfl (by assumption) rfl rfl ?_
    refine reg_skip rfl rfl (by assumption) rfl rfl ?_
    refine reg_skip rfl rfl (by assumption) rfl rfl ?_
    refine reg_skip rfl rfl (by assumption) rfl rfl ?_
    refine reg_quiet rfl (pick_F tab_ok rfl (by assumption) rfl) ?_
    refine reg_quiet rfl (step_C tab_ok (fun K hk => hk)) ?_
    refine reg_nil ?_
    refine seq_n ?_
    refine wc_ret ?_
    exact ⟨trivial, [], .of rfl rfl rfl rfl rfl ⟨⟨_, rfl, AVLe.of_eq rfl⟩, rfl, trivial⟩ trivial⟩
structure RepTo (l : List LUse) (j : Nat) : Prop where
  le : j ≤ l.length
  no : ∀ j', j' < j → ∀ i, i < j' → clashI l i j' = false
theorem refrepeat_is (l : List LUse) (hL : l.length ≤ 1000000) : FnIs Try.prog 49 [.d (.arr 20 encUse l)] [] (.tup (.acons (.int .i64 (repI l).1) (.acons (.int .i64 (repI l).2) .anil))) [] := by
  refine fnIs_of tab_ok Try.func49 rfl rfl rfl ?_
  refine wc_seq ?_
  refine wc_region ?_
  refine reg_quiet rfl (step_C tab_ok (fun K hk => hk)) ?_
  refine reg_quiet rfl (step_C tab_ok (fun K hk => hk)) ?_
  refine reg_nil ?_
  refine seq_n ?_
  refine wc_seq ?_
  refine wc_seq ?_
  refine wc_region ?_
  refine reg_quiet rfl (step_C tab_ok (fun K hk => hk)) ?_
  refine reg_nil ?_
  refine seq_n ?_
  refine wc_block ?_
  refine wc_inv (fun j : Nat => ⟨[(4, .int .i64 j), (0, .d (.arr 20 encUse l))], [], 72, Try.f49.ntmps, 64⟩) (RepTo l) (fun j => l.length - j) 0 [] ⟨Nat.zero_le _, fun _ h => absurd h (Nat.not_lt_zero _)⟩
    (.of rfl rfl rfl rfl rfl ⟨⟨_, rfl, .refl _⟩, rfl, ⟨_, rfl, .refl _⟩, rfl, trivial⟩ trivial) ?_
  intro j hinv
  have hj := hinv.le
  refine wc_of ?_
  refine wc_seq ?_
  refine wc_seq ?_
  refine wc_region ?_
  refine reg_quiet rfl (step_C tab_ok (fun K hk => hk)) ?_
  refine reg_quiet rfl (step_C tab_ok (fun K hk => hk)) ?_
  refine reg_quiet rfl (len_arr tab_ok rfl rfl) ?_
  refine reg_quiet rfl (step_C tab_ok (fun K hk => hk)) ?_
  refine reg_nil ?_
  refine seq_n ?_
  refine wc_cond rfl (fun h2 => ?_) (fun h2 => ?_)
  · have hlt : j < l.length := by have := of_decide_eq_true h2; omega
    obtain ⟨b, hb⟩ : ∃ u, l[j]? = some u := ⟨_, List.getElem?_eq_getElem hlt⟩
    have hb' : l[((j : Int)).toNat]? = some b := by rw [Int.toNat_natCast]; exact hb
    refine wc_skip ?_
    refine seq_n ?_
    refine wc_seq ?_
    refine wc_block ?_
    refine wc_seq ?_
    refine wc_region ?_
    refine reg_quiet rfl (step_C tab_ok (fun K hk => hk)) ?_
    refine reg_nil ?_
    refine seq_n ?_
    refine wc_block ?_
    refine wc_inv (fun i : Nat => ⟨[(5, .int .i64 i), (4, .int .i64 j), (0, .d (.arr 20 encUse l))], [], 72, Try.f49.ntmps, 64⟩) (fun i => i ≤ j ∧ ∀ i', i' < i → clashI l i' j = false) (fun i => j - i) 0 [] ⟨Nat.zero_le _, fun _ h => absurd h (Nat.not_lt_zero _)⟩
      (.of rfl rfl rfl rfl rfl ⟨⟨_, rfl, .refl _⟩, rfl, ⟨_, rfl, .refl _⟩, rfl, ⟨_, rfl, .refl _⟩, rfl, trivial⟩ trivial) ?_
    rintro i ⟨hi, hno⟩
    refine wc_of ?_
    refine wc_seq ?_
    refine wc_seq ?_
    refine wc_region ?_
    refine reg_quiet rfl (step_C tab_ok (fun K hk => hk)) ?_
    refine reg_quiet rfl (step_C tab_ok (fun K hk => hk)) ?_
    refine reg_quiet rfl (step_C tab_ok (fun K hk => hk)) ?_
    refine reg_nil ?_
    refine seq_n ?_
    refine wc_cond rfl (fun h3 => ?_) (fun h3 => ?_)
    · have hij : i < j := by have := of_decide_eq_true h3; omega
      obtain ⟨a, ha⟩ : ∃ u, l[i]? = some u := ⟨_, List.getElem?_eq_getElem (by omega)⟩
      have ha' : l[((i : Int)).toNat]? = some a := by rw [Int.toNat_natCast]; exact ha
      have hcl : clashI l i j = clash a b := by simp only [clashI, ha, hb]
      cases hc : clash a b with
      | true =>
        refine wc_skip ?_
        refine seq_n ?_
        refine wc_seq ?_
        refine wc_block ?_
        refine wc_seq ?_
        refine wc_draw (by kernel_rfl) ?_
        refine dreg_q [0] [] rfl (step_C tab_ok (fun K hk => hk)) ?_
        refine dreg_q [5] [] rfl (step_C tab_ok (fun K hk => hk)) ?_
        refine dreg_q [17, 18] [] rfl (index_arr tab_ok rfl rfl rfl rfl rfl (by omega) (by assumption)) ?_
        refine dreg_q [19] [] rfl (load_i tab_ok rfl rfl) ?_
        refine dreg_q [0] [] rfl (step_C tab_ok (fun K hk => hk)) ?_
        refine dreg_q [4] [] rfl (step_C tab_ok (fun K hk => hk)) ?_
        refine dreg_q [21, 22] [] rfl (index_arr tab_ok rfl rfl rfl rfl rfl (by omega) (by assumption)) ?_
        refine dreg_q [23] [] rfl (load_i tab_ok rfl rfl) ?_
        refine dreg_q [20, 24] [] rfl (call_r (clash_is a b) rfl rfl (arg_e (arg_e arg_nil)) (.inl rfl) (fun _ => rfl)) ?_
        refine dreg_end (by kernel_rfl) ?_
        refine seq_n ?_
        refine wc_true rfl (by assumption) ?_
        refine wc_seq ?_
        refine wc_region ?_
        refine reg_quiet rfl (step_C tab_ok (fun K hk => hk)) ?_
        refine reg_quiet rfl (step_C tab_ok (fun K hk => hk)) ?_
        refine reg_quiet rfl (step_C tab_ok (fun K hk => hk)) ?_
        refine reg_quiet rfl (step_C tab_ok (fun K hk => hk)) ?_
        refine reg_nil ?_
        refine seq_n ?_
        refine wc_ret ?_
        refine blk_r ?_
        refine seq_r ?_
        refine loop_r ?_
        refine blk_r ?_
        refine blk_r ?_
        refine seq_r ?_
        refine loop_r ?_
        refine blk_r ?_
        refine seq_r ?_
        have hr : repI l = ((i : Int), (j : Int)) := by
          have e : repF l = some (i, j) := repF_some (by rw [hcl, hc]) hno hij hlt hinv.no
          rw [repI, e]
        rw [hr]
        exact ⟨trivial, [], .of rfl rfl rfl rfl rfl ⟨⟨_, rfl, AVLe.of_eq rfl⟩, rfl, trivial⟩ trivial⟩
      | false =>
        refine wc_skip ?_
        refine seq_n ?_
        refine wc_seq ?_
        refine wc_block ?_
        refine wc_seq ?_
        refine wc_draw (by kernel_rfl) ?_
        refine dreg_q [0] [] rfl (step_C tab_ok (fun K hk => hk)) ?_
        refine dreg_q [5] [] rfl (step_C tab_ok (fun K hk => hk)) ?_
        refine dreg_q [17, 18] [] rfl (index_arr tab_ok rfl rfl rfl rfl rfl (by omega) (by assumption)) ?_
        refine dreg_q [19] [] rfl (load_i tab_ok rfl rfl) ?_
        refine dreg_q [0] [] rfl (step_C tab_ok (fun K hk => hk)) ?_
        refine dreg_q [4] [] rfl (step_C tab_ok (fun K hk => hk)) ?_
        refine dreg_q [21, 22] [] rfl (index_arr tab_ok rfl rfl rfl rfl rfl (by omega) (by assumption)) ?_
        refine dreg_q [23] [] rfl (load_i tab_ok rfl rfl) ?_
        refine dreg_q [20, 24] [] rfl (call_r (clash_is a b) rfl rfl (arg_e (arg_e arg_nil)) (.inl rfl) (fun _ => rfl)) ?_
        refine dreg_end (by kernel_rfl) ?_
        refine seq_n ?_
        refine wc_false rfl (by assumption) ?_
        refine wc_skip ?_
        refine blk_n ?_
        refine seq_n ?_
        refine wc_region ?_
        refine reg_quiet rfl (step_C tab_ok (fun K hk => hk)) ?_
        refine reg_quiet rfl (add_int tab_ok rfl rfl (wrap_i64 (by omega) (by omega))) ?_
        refine reg_quiet rfl (step_C tab_ok (fun K hk => hk)) ?_
        refine reg_nil ?_
        refine loop_n (i + 1) [] ⟨by omega, fun i' hi' => ?_⟩ (by omega) ?_
        · by_cases e : i' = i
          · rw [e, hcl, hc]
          · exact hno i' (by omega)
        · exact .of rfl rfl rfl rfl rfl ⟨⟨_, rfl, .refl _⟩, rfl, ⟨_, rfl, .refl _⟩, rfl, ⟨_, rfl, .refl _⟩, rfl, trivial⟩ trivial
    · have he : i = j := by have := of_decide_eq_false h3; omega
      refine wc_exit ?_
      refine seq_x ?_
      refine loop_x ?_
      refine blk_x ?_
      refine blk_n ?_
      refine seq_n ?_
      refine wc_region ?_
      refine reg_quiet rfl (step_C tab_ok (fun K hk => hk)) ?_
      refine reg_quiet rfl (add_int tab_ok rfl rfl (wrap_i64 (by omega) (by omega))) ?_
      refine reg_quiet rfl (step_C tab_ok (fun K hk => hk)) ?_
      refine reg_nil ?_
      refine loop_n (j + 1) [] ⟨by omega, fun j' hj' i' hi' => ?_⟩ (by omega) ?_
      · by_cases e : j' = j
        · subst e; exact hno i' (by omega)
        · exact hinv.no j' (by omega) i' hi'
      · exact .of rfl rfl rfl rfl rfl ⟨⟨_, rfl, .refl _⟩, rfl, ⟨_, rfl, .refl _⟩, rfl, trivial⟩ trivial
  · have he : j = l.length := by have := of_decide_eq_false h2; omega
    refine wc_exit ?_
    refine seq_x ?_
    refine loop_x ?_
    refine blk_x ?_
    refine seq_n ?_
    refine wc_seq ?_
    refine wc_region ?_
    refine reg_quiet rfl (step_C tab_ok (fun K hk => hk)) ?_
    refine reg_quiet rfl (step_C tab_ok (fun K hk => hk)) ?_
    refine reg_nil ?_
    refine seq_n ?_
    refine wc_ret ?_
    have hr : repI l = (-1, -1) := by
      have e : repF l = none := repF_none fun j' hj' => hinv.no j' (by omega)
      rw [repI, e]
    rw [hr]
    exact ⟨trivial, [], .of rfl rfl rfl rfl rfl ⟨⟨_, rfl, AVLe.of_eq rfl⟩, rfl, trivial⟩ trivial⟩
end Go.Proofs.Ytjpjchohpjbknaa

/- Ledgers: Count, same. -/
namespace Go.Proofs.Ytjpjchohpjbknaa
open Go.Eng
set_option maxHeartbeats 2000000
attribute [local irreducible] WC RegS RegD SeqQ BlkQ ScoQ RegK CutK Sat SatN FnIs LoopQ StepIs OpIs
def cntL (l : List LUse) (k : List Int) : Nat := (l.filter (fun u => decide (u.key = k))).length
theorem cntL_go {l : List LUse} {k : List Int} {i : Nat} {u : LUse} (hu : l[i]? = some u) : cntL (l.take (i + 1)) k = cntL (l.take i) k + (if decide (u.key = k) = true then 1 else 0) := by
  rw [List.take_add_one, hu]
  simp only [cntL, List.filter_append, List.length_append, Option.toList_some]
  cases h : decide (u.key = k) <;> simp [List.filter, h]
theorem cntL_le (l : List LUse) (k : List Int) : cntL l k ≤ l.length := List.length_filter_le _ _
theorem count_is (l : List LUse) (k : List Int) (hL : l.length ≤ 1000000) : FnIs Try.prog 48 [.d (encLed l), .d (encKey k)] [] (.int .i64 (cntL l k)) [] := by
  refine fnIs_of tab_ok Try.func48 rfl rfl rfl ?_
  refine wc_seq ?_
  refine wc_region ?_
  refine reg_new (step_C tab_ok (fun K hk => hk)) rfl ?_
  refine reg_new (step_C tab_ok (fun K hk => hk)) rfl ?_
  refine reg_quiet rfl (step_C tab_ok (fun K hk => hk)) ?_
  refine reg_nil ?_
  refine seq_n ?_
  refine wc_seq ?_
  refine wc_region ?_
  refine reg_quiet rfl (step_C tab_ok (fun K hk => hk)) ?_
  refine reg_nil ?_
  refine seq_n ?_
  refine wc_seq ?_
  refine wc_seq ?_
  refine wc_region ?_
  refine reg_quiet rfl (step_C tab_ok (fun K hk => hk)) ?_
  refine reg_quiet rfl (load_box tab_ok rfl rfl ⟨_, rfl, rfl⟩ rfl) ?_
  refine reg_quiet rfl (len_arr tab_ok rfl rfl) ?_
  refine reg_quiet rfl (step_C tab_ok (fun K hk => hk)) ?_
  refine reg_nil ?_
  refine seq_n ?_
  refine wc_block ?_
  refine wc_inv (fun i : Nat => ⟨[(11, .int .i64 i), (10, .int .i64 l.length), (9, .d (.arr 20 encUse l)), (5, .int .i64 (cntL (l.take i) k)), (3, .ptr 72 [])], [(72, some (.box 76 (.d (encKey k))))], 80, Try.f48.ntmps, 64⟩) (fun i => i ≤ l.length) (fun i => l.length - i) 0 [] (Nat.zero_le _)
    (.of rfl rfl rfl rfl rfl ⟨⟨_, rfl, .refl _⟩, rfl, ⟨_, rfl, .refl _⟩, rfl, ⟨_, rfl, .refl _⟩, rfl, ⟨_, rfl, .refl _⟩, rfl, ⟨_, rfl, .refl _⟩, rfl, trivial⟩ ⟨⟨rfl, rfl, _, rfl, .refl _⟩, trivial⟩) ?_
  intro i hi
  refine wc_of ?_
  refine wc_seq ?_
  refine wc_region ?_
  refine reg_quiet rfl (step_C tab_ok (fun K hk => hk)) ?_
  refine reg_nil ?_
  refine seq_n ?_
  refine wc_seq ?_
  refine wc_cond rfl (fun h2 => ?_) (fun h2 => ?_)
  · have hlt : i < l.length := by have := of_decide_eq_true h2; omega
    obtain ⟨u, hu⟩ : ∃ u, l[i]? = some u := ⟨_, List.getElem?_eq_getElem hlt⟩
    have hu' : l[((i : Int)).toNat]? = some u := by rw [Int.toNat_natCast]; exact hu
    have hg := cntL_go (k := k) hu
    have hcl : cntL (l.take i) k ≤ 1000000 := Nat.le_trans (cntL_le _ _) (by simp; omega)
    cases hk : decide (u.key = k) with
    | true =>
      rw [hk, if_pos rfl] at hg
      refine wc_skip ?_
      refine seq_n ?_
      refine wc_seq ?_
      refine wc_block ?_
      refine wc_seq ?_
      refine wc_region ?_
      refine reg_quiet rfl (index_arr tab_ok rfl rfl rfl rfl rfl (by omega) (by assumption)) ?_
      refine reg_quiet rfl (load_i tab_ok rfl rfl) ?_
      refine reg_new (step_C tab_ok (fun K hk => hk)) rfl ?_
      refine reg_store (store_row tab_ok rfl rfl rfl ⟨_, ⟨rfl, rfl, rfl⟩, rfl⟩ rfl) ?_
      refine reg_nil ?_
      refine seq_n ?_
      refine wc_seq ?_
      refine wc_region ?_
      refine reg_quiet rfl (step_C tab_ok (fun K hk => hk)) ?_
      refine reg_quiet rfl (load_box tab_ok rfl rfl ⟨_, rfl, rfl⟩ rfl) ?_
      refine reg_quiet rfl (load_box tab_ok rfl rfl rfl rfl) ?_
      refine reg_quiet rfl (eql_data rfl rfl rfl rfl (by kernel_rfl) (by decide) (lkey_eq _ _)) ?_
      refine reg_nil ?_
      refine seq_n ?_
      refine wc_true rfl (by assumption) ?_
      refine wc_region ?_
      refine reg_quiet rfl (step_C tab_ok (fun K hk => hk)) ?_
      refine reg_quiet rfl (add_int tab_ok rfl rfl (wrap_i64 (by omega) (by omega))) ?_
      refine reg_quiet rfl (step_C tab_ok (fun K hk => hk)) ?_
      refine reg_nil ?_
      refine blk_n ?_
      refine seq_n ?_
      refine wc_region ?_
      refine reg_quiet rfl (add_int tab_ok rfl rfl (wrap_i64 (by omega) (by omega))) ?_
      refine reg_quiet rfl (step_C tab_ok (fun K hk => hk)) ?_
      refine reg_nil ?_
      refine loop_n (i + 1) [] hlt (by omega) ?_
      rw [hg]
      exact .of rfl rfl rfl rfl rfl ⟨⟨_, rfl, .refl _⟩, rfl, ⟨_, rfl, .refl _⟩, rfl, ⟨_, rfl, .refl _⟩, rfl, ⟨_, rfl, .refl _⟩, rfl, ⟨_, rfl, .refl _⟩, rfl, trivial⟩ ⟨⟨rfl, rfl, _, rfl, .refl _⟩, trivial⟩
    | false =>
      rw [hk, if_neg (by simp)] at hg
      refine wc_skip ?_
      refine seq_n ?_
      refine wc_seq ?_
      refine wc_block ?_
      refine wc_seq ?_
      refine wc_region ?_
      refine reg_quiet rfl (index_arr tab_ok rfl rfl rfl rfl rfl (by omega) (by assumption)) ?_
      refine reg_quiet rfl (load_i tab_ok rfl rfl) ?_
      refine reg_new (step_C tab_ok (fun K hk => hk)) rfl ?_
      refine reg_store (store_row tab_ok rfl rfl rfl ⟨_, ⟨rfl, rfl, rfl⟩, rfl⟩ rfl) ?_
      refine reg_nil ?_
      refine seq_n ?_
      refine wc_seq ?_
      refine wc_region ?_
      refine reg_quiet rfl (step_C tab_ok (fun K hk => hk)) ?_
      refine reg_quiet rfl (load_box tab_ok rfl rfl ⟨_, rfl, rfl⟩ rfl) ?_
      refine reg_quiet rfl (load_box tab_ok rfl rfl rfl rfl) ?_
      refine reg_quiet rfl (eql_data rfl rfl rfl rfl (by kernel_rfl) (by decide) (lkey_eq _ _)) ?_
      refine reg_nil ?_
      refine seq_n ?_
      refine wc_false rfl (by assumption) ?_
      refine wc_skip ?_
      refine blk_n ?_
      refine seq_n ?_
      refine wc_region ?_
      refine reg_quiet rfl (add_int tab_ok rfl rfl (wrap_i64 (by omega) (by omega))) ?_
      refine reg_quiet rfl (step_C tab_ok (fun K hk => hk)) ?_
      refine reg_nil ?_
      refine loop_n (i + 1) [] hlt (by omega) ?_
      rw [hg]
      exact .of rfl rfl rfl rfl rfl ⟨⟨_, rfl, .refl _⟩, rfl, ⟨_, rfl, .refl _⟩, rfl, ⟨_, rfl, .refl _⟩, rfl, ⟨_, rfl, .refl _⟩, rfl, ⟨_, rfl, .refl _⟩, rfl, trivial⟩ ⟨⟨rfl, rfl, _, rfl, .refl _⟩, trivial⟩
  · have he : i = l.length := by have := of_decide_eq_false h2; omega
    refine wc_exit ?_
    refine seq_x ?_
    refine loop_x ?_
    refine blk_x ?_
    refine seq_n ?_
    refine wc_seq ?_
    refine wc_region ?_
    refine reg_quiet rfl (step_C tab_ok (fun K hk => hk)) ?_
    refine reg_quiet rfl (step_C tab_ok (fun K hk => hk)) ?_
    refine reg_nil ?_
    refine seq_n ?_
    refine wc_ret ?_
    refine ⟨trivial, [], .of rfl rfl rfl rfl rfl ⟨⟨_, rfl, AVLe.of_eq ?_⟩, rfl, trivial⟩ trivial⟩
    rw [he, List.take_length]
    rfl
structure UseTo (a b : List LUse) (i : Nat) : Prop where
  len : a.length = b.length
  le : i ≤ a.length
  same : ∀ j, j < i → a[j]? = b[j]?
theorem UseTo.hit {a b : List LUse} {i : Nat} {x y : LUse} (ha : a[i]? = some x) (hb : b[i]? = some y) (h : x ≠ y) : decide (a = b) = false :=
  decide_eq_false fun e => by rw [e, hb] at ha; exact h (Option.some.inj ha).symm
theorem UseTo.go {a b : List LUse} {i : Nat} {x y : LUse} (hh : UseTo a b i) (ha : a[i]? = some x) (hb : b[i]? = some y) (h : x = y) : UseTo a b (i + 1) :=
  ⟨hh.len, (List.getElem?_eq_some_iff.1 ha).1, fun j hj => by
    by_cases e : j = i
    · rw [e, ha, hb, h]
    · exact hh.same j (by omega)⟩
theorem UseTo.end {a b : List LUse} {i : Nat} (hh : UseTo a b i) (he : i = a.length) : decide (a = b) = true :=
  decide_eq_true (List.ext_getElem? fun j => by
    by_cases hj : j < i
    · exact hh.same j hj
    · have := hh.len
      rw [List.getElem?_eq_none (by omega), List.getElem?_eq_none (by omega)])
theorem usame_is (a b : List LUse) (hL : b.length ≤ 1000000) : FnIs Try.prog 42 [.d (.cons (.arx 20 encUse a) .nil), .d (.arr 20 encUse b)] [] (.bool (decide (a = b))) [] := by
  refine fnIs_of tab_ok Try.func42 rfl rfl rfl ?_
  refine wc_seq ?_
  refine wc_region ?_
  refine reg_new (step_C tab_ok (fun K hk => hk)) rfl ?_
  refine reg_quiet rfl (step_C tab_ok (fun K hk => hk)) ?_
  refine reg_nil ?_
  refine seq_n ?_
  refine wc_seq ?_
  refine wc_seq_cut 19 (.bool (!decide ((a.length : Int) = b.length) || !decide ((a.length : Int) = b.length))) _ rfl ?_ ?_
  · refine reg_quiet rfl (step_C tab_ok (fun K hk => hk)) ?_
    refine reg_quiet rfl (load_box tab_ok rfl rfl ⟨_, rfl, rfl⟩ rfl) ?_
    refine reg_quiet rfl (len_arx tab_ok rfl rfl) ?_
    refine reg_quiet rfl (step_C tab_ok (fun K hk => hk)) ?_
    refine reg_quiet rfl (len_arr tab_ok rfl rfl) ?_
    refine reg_quiet rfl (step_C tab_ok (fun K hk => hk)) ?_
    refine reg_quiet rfl (step_C tab_ok (fun K hk => hk)) ?_
    refine reg_split rfl rfl rfl (fun hb => ?_) (fun hb => ?_)
    refine reg_on rfl rfl (by assumption) ?_
    refine reg_quiet rfl (step_C tab_ok (fun K hk => hk)) ?_
    refine reg_on rfl rfl (by assumption) ?_
    refine reg_quiet rfl (load_box tab_ok rfl rfl ⟨_, rfl, rfl⟩ rfl) ?_
    refine reg_on rfl rfl (by assumption) ?_
    refine reg_quiet rfl (cap_arx tab_ok rfl rfl) ?_
    refine reg_on rfl rfl (by assumption) ?_
    refine reg_quiet rfl (step_C tab_ok (fun K hk => hk)) ?_
    refine reg_on rfl rfl (by assumption) ?_
    refine reg_quiet rfl (len_arr tab_ok rfl rfl) ?_
    refine reg_on rfl rfl (by assumption) ?_
    refine reg_quiet rfl (step_C tab_ok (fun K hk => hk)) ?_
    refine reg_quiet rfl (pick_F tab_ok rfl (by assumption) rfl) ?_
    rotate_left
    refine reg_skip rfl rfl (by assumption) rfl rfl ?_
    refine reg_skip rfl rfl (by assumption) rfl rfl ?_
    refine reg_skip rfl rfl (by assumption) rfl rfl ?_
    refine reg_skip rfl rfl (by assumption) rfl rfl ?_
    refine reg_skip rfl rfl (by assumption) rfl rfl ?_
    refine reg_skip rfl rfl (by assumption) rfl rfl ?_
    refine reg_quiet rfl (pick_T tab_ok rfl (by assumption) rfl) ?_
    rotate_left
    all_goals refine reg_cut 14 rfl rfl rfl rfl rfl rfl rfl rfl rfl (AVLe.of_eq ?_)
    all_goals (first | rfl | (clear q5; simp_all; done) | (simp_all; done) | (simp_all; omega))
  refine wc_cond rfl (fun h1 => ?_) (fun h1 => ?_)
  · refine wc_seq ?_
    refine wc_region ?_
    refine reg_quiet rfl (step_C tab_ok (fun K hk => hk)) ?_
    refine reg_nil ?_
    refine seq_n ?_
    refine wc_ret ?_
    refine seq_r ?_
    refine ⟨trivial, [], .of rfl rfl rfl rfl rfl ⟨⟨_, rfl, AVLe.of_eq ?_⟩, rfl, trivial⟩ trivial⟩
    rw [decide_eq_false (fun e : a = b => by subst e; simp at h1)]
    rfl
  · have hl : a.length = b.length := by have e : (a.length : Int) = b.length := by simpa using h1
                                        omega
    refine wc_skip ?_
    refine seq_n ?_
    refine wc_seq ?_
    refine wc_seq ?_
    refine wc_region ?_
    refine reg_quiet rfl (step_C tab_ok (fun K hk => hk)) ?_
    refine reg_nil ?_
    refine seq_n ?_
    refine wc_block ?_
    refine wc_inv (fun i : Nat => ⟨[(5, .int .i64 i), (2, .ptr 64 []), (1, .d (.arr 20 encUse b))], [(64, some (.box 88 (.d (.cons (.arx 20 encUse a) .nil))))], 72, Try.f42.ntmps, 64⟩) (UseTo a b) (fun i => a.length - i) 0 [] ⟨hl, Nat.zero_le _, fun _ h => absurd h (Nat.not_lt_zero _)⟩
      (.of rfl rfl rfl rfl rfl ⟨⟨_, rfl, .refl _⟩, rfl, ⟨_, rfl, .refl _⟩, rfl, ⟨_, rfl, .refl _⟩, rfl, trivial⟩ ⟨⟨rfl, rfl, _, rfl, .refl _⟩, trivial⟩) ?_
    intro i hinv
    have hi := hinv.le
    refine wc_of ?_
    refine wc_seq ?_
    refine wc_seq ?_
    refine wc_region ?_
    refine reg_quiet rfl (step_C tab_ok (fun K hk => hk)) ?_
    refine reg_quiet rfl (step_C tab_ok (fun K hk => hk)) ?_
    refine reg_quiet rfl (len_arr tab_ok rfl rfl) ?_
    refine reg_quiet rfl (step_C tab_ok (fun K hk => hk)) ?_
    refine reg_nil ?_
    refine seq_n ?_
    refine wc_cond rfl (fun h2 => ?_) (fun h2 => ?_)
    · have hlt : i < a.length := by have := of_decide_eq_true h2; omega
      obtain ⟨f, hf⟩ : ∃ f, a[i]? = some f := ⟨_, List.getElem?_eq_getElem hlt⟩
      obtain ⟨g, hg⟩ : ∃ g, b[i]? = some g := ⟨_, List.getElem?_eq_getElem (hl ▸ hlt)⟩
      have hf' : a[((i : Int)).toNat]? = some f := by rw [Int.toNat_natCast]; exact hf
      have hg' : b[((i : Int)).toNat]? = some g := by rw [Int.toNat_natCast]; exact hg
      refine wc_skip ?_
      refine seq_n ?_
      refine wc_seq ?_
      refine wc_block ?_
      refine wc_seq ?_
      refine wc_draw (by kernel_rfl) ?_
      refine dreg_q [2] [64] rfl (step_C tab_ok (fun K hk => hk)) ?_
      refine dreg_q [26] [64] rfl (load_box tab_ok rfl rfl ⟨_, rfl, rfl⟩ rfl) ?_
      refine dreg_q [5] [] rfl (step_C tab_ok (fun K hk => hk)) ?_
      refine dreg_q [27, 28] [] rfl (index_arx tab_ok rfl rfl rfl rfl rfl (by omega) (by assumption)) ?_
      refine dreg_q [29] [] rfl (load_i tab_ok rfl rfl) ?_
      refine dreg_q [1] [] rfl (step_C tab_ok (fun K hk => hk)) ?_
      refine dreg_q [5] [] rfl (step_C tab_ok (fun K hk => hk)) ?_
      refine dreg_q [31, 32] [] rfl (index_arr tab_ok rfl rfl rfl rfl rfl (by omega) (by assumption)) ?_
      refine dreg_q [33] [] rfl (load_i tab_ok rfl rfl) ?_
      refine dreg_q [30, 34] [] rfl (neq_data rfl rfl rfl rfl (by kernel_rfl) (by decide) (lu_eq _ _)) ?_
      refine dreg_end (by kernel_rfl) ?_
      refine seq_n ?_
      refine wc_cond rfl (fun hu => ?_) (fun hu => ?_)
      · refine wc_seq ?_
        refine wc_region ?_
        refine reg_quiet rfl (step_C tab_ok (fun K hk => hk)) ?_
        refine reg_nil ?_
        refine seq_n ?_
        refine wc_ret ?_
        refine blk_r ?_
        refine seq_r ?_
        refine loop_r ?_
        refine blk_r ?_
        refine seq_r ?_
        refine ⟨trivial, [], .of rfl rfl rfl rfl rfl ⟨⟨_, rfl, AVLe.of_eq ?_⟩, rfl, trivial⟩ trivial⟩
        rw [UseTo.hit hf hg (by simpa using hu)]
        rfl
      · refine wc_skip ?_
        refine blk_n ?_
        refine seq_n ?_
        refine wc_region ?_
        refine reg_quiet rfl (step_C tab_ok (fun K hk => hk)) ?_
        refine reg_quiet rfl (add_int tab_ok rfl rfl (wrap_i64 (by omega) (by omega))) ?_
        refine reg_quiet rfl (step_C tab_ok (fun K hk => hk)) ?_
        refine reg_nil ?_
        refine loop_n (i + 1) [] (hinv.go hf hg (by simpa using hu)) (by omega) ?_
        exact .of rfl rfl rfl rfl rfl ⟨⟨_, rfl, .refl _⟩, rfl, ⟨_, rfl, .refl _⟩, rfl, ⟨_, rfl, .refl _⟩, rfl, trivial⟩ ⟨⟨rfl, rfl, _, rfl, .refl _⟩, trivial⟩
    · have he : i = a.length := by have := of_decide_eq_false h2; omega
      refine wc_exit ?_
      refine seq_x ?_
      refine loop_x ?_
      refine blk_x ?_
      refine seq_n ?_
      refine wc_seq ?_
      refine wc_region ?_
      refine reg_quiet rfl (step_C tab_ok (fun K hk => hk)) ?_
      refine reg_nil ?_
      refine seq_n ?_
      refine wc_ret ?_
      refine ⟨trivial, [], .of rfl rfl rfl rfl rfl ⟨⟨_, rfl, AVLe.of_eq ?_⟩, rfl, trivial⟩ trivial⟩
      rw [hinv.end he]
      rfl
end Go.Proofs.Ytjpjchohpjbknaa

/- Ledgers: Grow, Clip. -/
namespace Go.Proofs.Ytjpjchohpjbknaa
open Go.Eng
set_option maxHeartbeats 2000000
attribute [local irreducible] WC RegS RegD SeqQ BlkQ ScoQ RegK CutK Sat SatN FnIs LoopQ StepIs OpIs
theorem grow_is (m : Nat) (hm : 0 < m) (hlen : m ≤ 1048576) : FnIs Try.prog 106 [.d (.sc nil_), .int .i64 m] [] (.own 64 0 0 20 none) [(64, rowU false [])] := by
  have d0 : decide ((m : Int) < 0) = false := decide_eq_false (by omega)
  have d1 : decide (0 < (m : Int)) = true := decide_eq_true (by omega)
  have hw : IntKind.i64.wrap ((m : Int) - 0) = m := by rw [Int.sub_zero]; exact wrap_i64 (by omega) (by omega)
  refine fnIs_of tab_ok Try.func106 rfl rfl rfl ?_
  refine wc_seq ?_
  refine wc_region ?_
  refine reg_quiet rfl (step_C tab_ok (fun K hk => hk)) ?_
  refine reg_nil ?_
  refine seq_n ?_
  refine wc_seq ?_
  refine wc_seq ?_
  refine wc_region ?_
  refine reg_quiet rfl (step_C tab_ok (fun K hk => hk)) ?_
  refine reg_quiet rfl (step_C tab_ok (fun K hk => hk)) ?_
  refine reg_nil ?_
  refine seq_n ?_
  refine wc_false rfl rfl ?_
  refine wc_skip ?_
  refine seq_n ?_
  refine wc_seq ?_
  refine wc_seq ?_
  refine wc_region ?_
  refine reg_quiet rfl (step_C tab_ok (fun K hk => hk)) ?_
  refine reg_quiet rfl (step_C tab_ok (fun K hk => hk)) ?_
  refine reg_quiet rfl (cap_nil tab_ok rfl rfl) ?_
  refine reg_quiet rfl (step_C tab_ok (fun K hk => hk)) ?_
  refine reg_quiet rfl (len_nil tab_ok rfl rfl) ?_
  refine reg_quiet rfl (sub_int (m := 0) tab_ok rfl rfl rfl) ?_
  refine reg_quiet rfl (sub_int (m := (m : Int)) tab_ok rfl rfl hw) ?_
  refine reg_quiet rfl (step_C tab_ok (fun K hk => hk)) ?_
  refine reg_nil ?_
  refine seq_n ?_
  refine wc_seq ?_
  refine wc_region ?_
  refine reg_quiet rfl (step_C tab_ok (fun K hk => hk)) ?_
  refine reg_quiet rfl (step_C tab_ok (fun K hk => hk)) ?_
  refine reg_nil ?_
  refine seq_n ?_
  refine wc_true rfl (by assumption) ?_
  refine wc_region ?_
  refine reg_quiet rfl (step_C tab_ok (fun K hk => hk)) ?_
  refine reg_quiet rfl (step_C tab_ok (fun K hk => hk)) ?_
  refine reg_quiet rfl (cap_nil tab_ok rfl rfl) ?_
  refine reg_quiet rfl (slice_n0 tab_ok rfl rfl rfl rfl) ?_
  refine reg_quiet rfl (step_C tab_ok (fun K hk => hk)) ?_
  refine reg_new (append_zeros (m := m) (s := 20) (e := 84) (re := r84) tab_ok encUse rfl Try.underlying3 rfl rfl rfl rfl rfl hm hlen rfl) rfl ?_
  refine reg_quiet rfl (step_C tab_ok (fun K hk => hk)) ?_
  refine reg_quiet rfl (len_nil tab_ok rfl rfl) ?_
  refine reg_quiet rfl (slice_own_to tab_ok rfl rfl rfl rfl (Nat.zero_le _)) ?_
  refine reg_quiet rfl (step_C tab_ok (fun K hk => hk)) ?_
  refine reg_nil ?_
  refine seq_n ?_
  refine wc_seq ?_
  refine wc_region ?_
  refine reg_quiet rfl (step_C tab_ok (fun K hk => hk)) ?_
  refine reg_quiet rfl (step_C tab_ok (fun K hk => hk)) ?_
  refine reg_nil ?_
  refine seq_n ?_
  refine wc_ret ?_
  exact ⟨trivial, [(64, some 208)], .of rfl rfl rfl rfl rfl ⟨⟨_, rfl, AVLe.of_eq rfl⟩, rfl, trivial⟩ ⟨⟨rfl, rfl, _, rfl, .refl _⟩, trivial⟩⟩
theorem grow_zero : FnIs Try.prog 106 [.d (.sc nil_), .d (i6 0)] [] (.d (.sc nil_)) [] := by
  refine fnIs_of tab_ok Try.func106 rfl rfl rfl ?_
  refine wc_seq ?_
  refine wc_region ?_
  refine reg_quiet rfl (step_C tab_ok (fun K hk => hk)) ?_
  refine reg_nil ?_
  refine seq_n ?_
  refine wc_seq ?_
  refine wc_seq ?_
  refine wc_region ?_
  refine reg_quiet rfl (step_C tab_ok (fun K hk => hk)) ?_
  refine reg_quiet rfl (step_C tab_ok (fun K hk => hk)) ?_
  refine reg_nil ?_
  refine seq_n ?_
  refine wc_false rfl rfl ?_
  refine wc_skip ?_
  refine seq_n ?_
  refine wc_seq ?_
  refine wc_seq ?_
  refine wc_region ?_
  refine reg_quiet rfl (step_C tab_ok (fun K hk => hk)) ?_
  refine reg_quiet rfl (step_C tab_ok (fun K hk => hk)) ?_
  refine reg_quiet rfl (cap_nil tab_ok rfl rfl) ?_
  refine reg_quiet rfl (step_C tab_ok (fun K hk => hk)) ?_
  refine reg_quiet rfl (len_nil tab_ok rfl rfl) ?_
  refine reg_quiet rfl (sub_int tab_ok rfl rfl (wrap_i64 (by omega) (by omega))) ?_
  refine reg_quiet rfl (sub_int tab_ok rfl rfl (wrap_i64 (by omega) (by omega))) ?_
  refine reg_quiet rfl (step_C tab_ok (fun K hk => hk)) ?_
  refine reg_nil ?_
  refine seq_n ?_
  refine wc_seq ?_
  refine wc_region ?_
  refine reg_quiet rfl (step_C tab_ok (fun K hk => hk)) ?_
  refine reg_quiet rfl (step_C tab_ok (fun K hk => hk)) ?_
  refine reg_nil ?_
  refine seq_n ?_
  refine wc_false rfl rfl ?_
  refine wc_skip ?_
  refine seq_n ?_
  refine wc_seq ?_
  refine wc_region ?_
  refine reg_quiet rfl (step_C tab_ok (fun K hk => hk)) ?_
  refine reg_quiet rfl (step_C tab_ok (fun K hk => hk)) ?_
  refine reg_nil ?_
  refine seq_n ?_
  refine wc_ret ?_
  exact ⟨trivial, [], .of rfl rfl rfl rfl rfl ⟨⟨_, rfl, AVLe.of_eq rfl⟩, rfl, trivial⟩ trivial⟩
theorem clipu_is (l : List LUse) (n : Nat) (ex : Bool) : FnIs Try.prog 69 [.own 0 0 n 20 none] [(0, rowU ex l)] (.own 0 0 n 20 (some n)) [(0, rowU ex l)] := by
  refine fnIs_of tab_ok Try.func69 rfl rfl rfl ?_
  refine wc_seq ?_
  refine wc_region ?_
  refine reg_quiet rfl (step_C tab_ok (fun K hk => hk)) ?_
  refine reg_nil ?_
  refine seq_n ?_
  refine wc_seq ?_
  refine wc_region ?_
  refine reg_quiet rfl (step_C tab_ok (fun K hk => hk)) ?_
  refine reg_quiet rfl (step_C tab_ok (fun K hk => hk)) ?_
  refine reg_quiet rfl (len_own tab_ok rfl rfl) ?_
  refine reg_quiet rfl (step_C tab_ok (fun K hk => hk)) ?_
  refine reg_quiet rfl (len_own tab_ok rfl rfl) ?_
  refine reg_quiet rfl (slice_clip tab_ok rfl rfl rfl rfl rfl) ?_
  refine reg_quiet rfl (step_C tab_ok (fun K hk => hk)) ?_
  refine reg_nil ?_
  refine seq_n ?_
  refine wc_ret ?_
  exact ⟨trivial, [], .of rfl rfl rfl rfl rfl ⟨⟨_, rfl, AVLe.of_eq rfl⟩, rfl, trivial⟩ ⟨⟨rfl, rfl, _, rfl, .refl _⟩, trivial⟩⟩
end Go.Proofs.Ytjpjchohpjbknaa

/- Ledgers: Concat. -/
namespace Go.Proofs.Ytjpjchohpjbknaa
open Go.Eng
set_option maxHeartbeats 2000000
attribute [local irreducible] WC RegS RegD SeqQ BlkQ ScoQ RegK CutK Sat SatN FnIs LoopQ StepIs OpIs
abbrev encSl (x : List LUse) : D := .arr 20 encUse x
abbrev FL (ls : List (List LUse)) (i : Nat) : Nat := (ls.take i).flatten.length
theorem fl_go {ls : List (List LUse)} {i : Nat} {x : List LUse} (h : ls[i]? = some x) : (ls.take (i + 1)).flatten = (ls.take i).flatten ++ x := by
  rw [List.take_add_one, h]
  simp
theorem fl_le (ls : List (List LUse)) (i : Nat) : FL ls i ≤ ls.flatten.length := by
  have := congrArg List.flatten (List.take_append_drop i ls)
  rw [List.flatten_append] at this
  have := congrArg List.length this
  rw [List.length_append] at this
  simp only [FL]
  omega
theorem concat_is (ls : List (List LUse)) (hp : 0 < ls.flatten.length) (hL : ls.flatten.length ≤ 1048576) (hn : ls.length ≤ 1000000) : FnIs Try.prog 91 [.d (.arr 1 encSl ls)] [] (.own 64 0 ls.flatten.length 20 none) [(64, rowU false ls.flatten)] := by
  refine fnIs_of tab_ok Try.func91 rfl rfl rfl ?_
  refine wc_seq ?_
  refine wc_region ?_
  refine reg_quiet rfl (step_C tab_ok (fun K hk => hk)) ?_
  refine reg_nil ?_
  refine seq_n ?_
  refine wc_seq ?_
  refine wc_region ?_
  refine reg_quiet rfl (step_C tab_ok (fun K hk => hk)) ?_
  refine reg_nil ?_
  refine seq_n ?_
  refine wc_seq ?_
  refine wc_seq ?_
  refine wc_region ?_
  refine reg_quiet rfl (step_C tab_ok (fun K hk => hk)) ?_
  refine reg_quiet rfl (len_arr tab_ok rfl rfl) ?_
  refine reg_quiet rfl (step_C tab_ok (fun K hk => hk)) ?_
  refine reg_nil ?_
  refine seq_n ?_
  refine wc_block ?_
  refine wc_inv (fun i : Nat => ⟨[(11, .int .i64 i), (10, .int .i64 ls.length), (9, .d (.arr 1 encSl ls)), (3, .int .i64 (FL ls i)), (0, .d (.arr 1 encSl ls))], [], 72, Try.f91.ntmps, 64⟩) (fun i => i ≤ ls.length) (fun i => ls.length - i) 0 [] (Nat.zero_le _)
    (.of rfl rfl rfl rfl rfl ⟨⟨_, rfl, .refl _⟩, rfl, ⟨_, rfl, .refl _⟩, rfl, ⟨_, rfl, .refl _⟩, rfl, ⟨_, rfl, .refl _⟩, rfl, ⟨_, rfl, .refl _⟩, rfl, trivial⟩ trivial) ?_
  intro i hi
  refine wc_of ?_
  refine wc_seq ?_
  refine wc_region ?_
  refine reg_quiet rfl (step_C tab_ok (fun K hk => hk)) ?_
  refine reg_nil ?_
  refine seq_n ?_
  refine wc_seq ?_
  refine wc_cond rfl (fun h2 => ?_) (fun h2 => ?_)
  · have hlt : i < ls.length := by have := of_decide_eq_true h2; omega
    obtain ⟨x, hx⟩ : ∃ u, ls[i]? = some u := ⟨_, List.getElem?_eq_getElem hlt⟩
    have hx' : ls[((i : Int)).toNat]? = some x := by rw [Int.toNat_natCast]; exact hx
    have hg : FL ls (i + 1) = FL ls i + x.length := by simp only [FL, fl_go hx, List.length_append]
    have hle := fl_le ls (i + 1)
    have hw : IntKind.i64.wrap ((FL ls i : Int) + (x.length : Int)) = (FL ls (i + 1) : Nat) := by rw [hg]; push_cast; exact wrap_i64 (by omega) (by omega)
    have d0 : decide (((FL ls (i + 1) : Nat) : Int) < 0) = false := decide_eq_false (by omega)
    refine wc_skip ?_
    refine seq_n ?_
    refine wc_seq ?_
    refine wc_block ?_
    refine wc_seq ?_
    refine wc_region ?_
    refine reg_quiet rfl (index_arr tab_ok rfl rfl rfl rfl rfl (by omega) (by assumption)) ?_
    refine reg_quiet rfl (load_i tab_ok rfl rfl) ?_
    refine reg_quiet rfl (step_C tab_ok (fun K hk => hk)) ?_
    refine reg_nil ?_
    refine seq_n ?_
    refine wc_seq ?_
    refine wc_region ?_
    refine reg_quiet rfl (step_C tab_ok (fun K hk => hk)) ?_
    refine reg_quiet rfl (step_C tab_ok (fun K hk => hk)) ?_
    refine reg_quiet rfl (len_arr tab_ok rfl rfl) ?_
    refine reg_quiet rfl (add_int (m := ((FL ls (i + 1) : Nat) : Int)) tab_ok rfl rfl hw) ?_
    refine reg_quiet rfl (step_C tab_ok (fun K hk => hk)) ?_
    refine reg_nil ?_
    refine seq_n ?_
    refine wc_seq ?_
    refine wc_region ?_
    refine reg_quiet rfl (step_C tab_ok (fun K hk => hk)) ?_
    refine reg_quiet rfl (step_C tab_ok (fun K hk => hk)) ?_
    refine reg_nil ?_
    refine seq_n ?_
    refine wc_false rfl rfl ?_
    refine wc_skip ?_
    refine blk_n ?_
    refine seq_n ?_
    refine wc_region ?_
    refine reg_quiet rfl (add_int tab_ok rfl rfl (wrap_i64 (by omega) (by omega))) ?_
    refine reg_quiet rfl (step_C tab_ok (fun K hk => hk)) ?_
    refine reg_nil ?_
    refine loop_n (i + 1) [] hlt (by omega) ?_
    exact .of rfl rfl rfl rfl rfl ⟨⟨_, rfl, .refl _⟩, rfl, ⟨_, rfl, .refl _⟩, rfl, ⟨_, rfl, .refl _⟩, rfl, ⟨_, rfl, .refl _⟩, rfl, ⟨_, rfl, .refl _⟩, rfl, trivial⟩ trivial
  · have he : i = ls.length := by have := of_decide_eq_false h2; omega
    subst he
    have hF : FL ls ls.length = ls.flatten.length := by simp only [FL, List.take_length]
    rw [hF]
    refine wc_exit ?_
    refine seq_x ?_
    refine loop_x ?_
    refine blk_x ?_
    refine seq_n ?_
    refine wc_seq ?_
    refine wc_region ?_
    refine reg_quiet rfl (step_C tab_ok (fun K hk => hk)) ?_
    refine reg_new (call_new (grow_is ls.flatten.length hp hL) rfl rfl (arg_e (arg_e arg_nil)) (.inl rfl) rfl rfl) rfl ?_
    refine reg_quiet rfl (step_C tab_ok (fun K hk => hk)) ?_
    refine reg_nil ?_
    refine seq_n ?_
    refine wc_seq ?_
    refine wc_seq ?_
    refine wc_region ?_
    refine reg_quiet rfl (step_C tab_ok (fun K hk => hk)) ?_
    refine reg_quiet rfl (len_arr tab_ok rfl rfl) ?_
    refine reg_quiet rfl (step_C tab_ok (fun K hk => hk)) ?_
    refine reg_nil ?_
    refine seq_n ?_
    refine wc_block ?_
    refine wc_inv (fun i : Nat => ⟨[(27, .int .i64 i), (26, .int .i64 ls.length), (25, .d (.arr 1 encSl ls)), (6, .own 64 0 (FL ls i) 20 none)], [(64, some (rowU false (ls.take i).flatten))], 72, Try.f91.ntmps, 64⟩) (fun i => i ≤ ls.length) (fun i => ls.length - i) 0 [(64, some 88)] (Nat.zero_le _)
      (.of rfl rfl rfl rfl rfl ⟨⟨_, rfl, .refl _⟩, rfl, ⟨_, rfl, .refl _⟩, rfl, ⟨_, rfl, .refl _⟩, rfl, ⟨_, rfl, .refl _⟩, rfl, trivial⟩ ⟨⟨rfl, rfl, _, rfl, .refl _⟩, trivial⟩) ?_
    intro i hi
    refine wc_of ?_
    refine wc_seq ?_
    refine wc_region ?_
    refine reg_quiet rfl (step_C tab_ok (fun K hk => hk)) ?_
    refine reg_nil ?_
    refine seq_n ?_
    refine wc_seq ?_
    refine wc_cond rfl (fun h2 => ?_) (fun h2 => ?_)
    · have hlt : i < ls.length := by have := of_decide_eq_true h2; omega
      obtain ⟨x, hx⟩ : ∃ u, ls[i]? = some u := ⟨_, List.getElem?_eq_getElem hlt⟩
      have hx' : ls[((i : Int)).toNat]? = some x := by rw [Int.toNat_natCast]; exact hx
      have hg := fl_go hx
      have hle := fl_le ls (i + 1)
      cases x with
      | nil =>
        rw [List.append_nil] at hg
        refine wc_skip ?_
        refine seq_n ?_
        refine wc_seq ?_
        refine wc_block ?_
        refine wc_seq ?_
        refine wc_region ?_
        refine reg_quiet rfl (index_arr tab_ok rfl rfl rfl rfl rfl (by omega) (by assumption)) ?_
        refine reg_quiet rfl (load_i tab_ok rfl rfl) ?_
        refine reg_quiet rfl (step_C tab_ok (fun K hk => hk)) ?_
        refine reg_nil ?_
        refine seq_n ?_
        refine wc_region ?_
        refine reg_quiet rfl (step_C tab_ok (fun K hk => hk)) ?_
        refine reg_quiet rfl (step_C tab_ok (fun K hk => hk)) ?_
        refine reg_quiet rfl (append_own_e (α := LUse) (s' := 20) (enc := encUse) tab_ok rfl rfl rfl rfl) ?_
        refine reg_quiet rfl (step_C tab_ok (fun K hk => hk)) ?_
        refine reg_nil ?_
        refine blk_n ?_
        refine seq_n ?_
        refine wc_region ?_
        refine reg_quiet rfl (add_int tab_ok rfl rfl (wrap_i64 (by omega) (by omega))) ?_
        refine reg_quiet rfl (step_C tab_ok (fun K hk => hk)) ?_
        refine reg_nil ?_
        refine loop_n (i + 1) [] hlt (by omega) ?_
        simp only [FL, hg]
        exact .of rfl rfl rfl rfl rfl ⟨⟨_, rfl, .refl _⟩, rfl, ⟨_, rfl, .refl _⟩, rfl, ⟨_, rfl, .refl _⟩, rfl, ⟨_, rfl, .refl _⟩, rfl, trivial⟩ ⟨⟨rfl, rfl, _, rfl, .refl _⟩, trivial⟩
      | cons y ys =>
        have hgl : FL ls (i + 1) = FL ls i + (y :: ys).length := by simp only [FL, hg, List.length_append]
        have hlen : ((ls.take i).flatten).length + (y :: ys).length ≤ 1048576 := by rw [← hgl]; omega
        refine wc_skip ?_
        refine seq_n ?_
        refine wc_seq ?_
        refine wc_block ?_
        refine wc_seq ?_
        refine wc_region ?_
        refine reg_quiet rfl (index_arr tab_ok rfl rfl rfl rfl rfl (by omega) (by assumption)) ?_
        refine reg_quiet rfl (load_i tab_ok rfl rfl) ?_
        refine reg_quiet rfl (step_C tab_ok (fun K hk => hk)) ?_
        refine reg_nil ?_
        refine seq_n ?_
        refine wc_region ?_
        refine reg_quiet rfl (step_C tab_ok (fun K hk => hk)) ?_
        refine reg_quiet rfl (step_C tab_ok (fun K hk => hk)) ?_
        refine reg_new2 (append_arr (xs := (ls.take i).flatten) (ys := y :: ys) (enc := encUse) (s := 20) (ex := false) tab_ok rfl rfl rfl rfl rfl rfl rfl (Nat.succ_pos _) hlen rfl) rfl ?_
        refine reg_quiet rfl (step_C tab_ok (fun K hk => hk)) ?_
        refine reg_nil ?_
        refine blk_n ?_
        refine seq_n ?_
        refine wc_region ?_
        refine reg_quiet rfl (add_int tab_ok rfl rfl (wrap_i64 (by omega) (by omega))) ?_
        refine reg_quiet rfl (step_C tab_ok (fun K hk => hk)) ?_
        refine reg_nil ?_
        refine loop_n (i + 1) [(64, some 120)] hlt (by omega) ?_
        rw [hgl, hg]
        exact .of rfl rfl rfl rfl rfl ⟨⟨_, rfl, .refl _⟩, rfl, ⟨_, rfl, .refl _⟩, rfl, ⟨_, rfl, .refl _⟩, rfl, ⟨_, rfl, .refl _⟩, rfl, trivial⟩ ⟨⟨rfl, rfl, _, rfl, .refl _⟩, trivial⟩
    · have he : i = ls.length := by have := of_decide_eq_false h2; omega
      subst he
      refine wc_exit ?_
      refine seq_x ?_
      refine loop_x ?_
      refine blk_x ?_
      refine seq_n ?_
      refine wc_seq ?_
      refine wc_region ?_
      refine reg_quiet rfl (step_C tab_ok (fun K hk => hk)) ?_
      refine reg_quiet rfl (step_C tab_ok (fun K hk => hk)) ?_
      refine reg_nil ?_
      refine seq_n ?_
      refine wc_ret ?_
      simp only [FL, List.take_length]
      exact ⟨trivial, [(64, some 64)], .of rfl rfl rfl rfl rfl ⟨⟨_, rfl, AVLe.of_eq rfl⟩, rfl, trivial⟩ ⟨⟨rfl, rfl, _, rfl, .refl _⟩, trivial⟩⟩
end Go.Proofs.Ytjpjchohpjbknaa

/- Ledgers: Concat of nothing. -/
namespace Go.Proofs.Ytjpjchohpjbknaa
open Go.Eng
set_option maxHeartbeats 2000000
attribute [local irreducible] WC RegS RegD SeqQ BlkQ ScoQ RegK CutK Sat SatN FnIs LoopQ StepIs OpIs
theorem no_flat {ls : List (List LUse)} {i : Nat} {x : List LUse} (h : ls.flatten = []) (hx : ls[i]? = some x) : x = [] :=
  List.flatten_eq_nil_iff.1 h x (List.mem_of_getElem? hx)
theorem concat_zero (ls : List (List LUse)) (h0 : ls.flatten = []) (hn : ls.length ≤ 1000000) : FnIs Try.prog 91 [.d (.arr 1 encSl ls)] [] (.d (.sc nil_)) [] := by
  refine fnIs_of tab_ok Try.func91 rfl rfl rfl ?_
  refine wc_seq ?_
  refine wc_region ?_
  refine reg_quiet rfl (step_C tab_ok (fun K hk => hk)) ?_
  refine reg_nil ?_
  refine seq_n ?_
  refine wc_seq ?_
  refine wc_region ?_
  refine reg_quiet rfl (step_C tab_ok (fun K hk => hk)) ?_
  refine reg_nil ?_
  refine seq_n ?_
  refine wc_seq ?_
  refine wc_seq ?_
  refine wc_region ?_
  refine reg_quiet rfl (step_C tab_ok (fun K hk => hk)) ?_
  refine reg_quiet rfl (len_arr tab_ok rfl rfl) ?_
  refine reg_quiet rfl (step_C tab_ok (fun K hk => hk)) ?_
  refine reg_nil ?_
  refine seq_n ?_
  refine wc_block ?_
  refine wc_inv (fun i : Nat => ⟨[(11, .int .i64 i), (10, .int .i64 ls.length), (9, .d (.arr 1 encSl ls)), (3, .d (i6 0)), (0, .d (.arr 1 encSl ls))], [], 72, Try.f91.ntmps, 64⟩) (fun i => i ≤ ls.length) (fun i => ls.length - i) 0 [] (Nat.zero_le _)
    (.of rfl rfl rfl rfl rfl ⟨⟨_, rfl, .refl _⟩, rfl, ⟨_, rfl, .refl _⟩, rfl, ⟨_, rfl, .refl _⟩, rfl, ⟨_, rfl, .refl _⟩, rfl, ⟨_, rfl, .refl _⟩, rfl, trivial⟩ trivial) ?_
  intro i hi
  refine wc_of ?_
  refine wc_seq ?_
  refine wc_region ?_
  refine reg_quiet rfl (step_C tab_ok (fun K hk => hk)) ?_
  refine reg_nil ?_
  refine seq_n ?_
  refine wc_seq ?_
  refine wc_cond rfl (fun h2 => ?_) (fun h2 => ?_)
  · have hlt : i < ls.length := by have := of_decide_eq_true h2; omega
    obtain ⟨x, hx⟩ : ∃ u, ls[i]? = some u := ⟨_, List.getElem?_eq_getElem hlt⟩
    obtain rfl := no_flat h0 hx
    have hx' : ls[((i : Int)).toNat]? = some [] := by rw [Int.toNat_natCast]; exact hx
    refine wc_skip ?_
    refine seq_n ?_
    refine wc_seq ?_
    refine wc_block ?_
    refine wc_seq ?_
    refine wc_region ?_
    refine reg_quiet rfl (index_arr tab_ok rfl rfl rfl rfl rfl (by omega) (by assumption)) ?_
    refine reg_quiet rfl (load_i tab_ok rfl rfl) ?_
    refine reg_quiet rfl (step_C tab_ok (fun K hk => hk)) ?_
    refine reg_nil ?_
    refine seq_n ?_
    refine wc_seq ?_
    refine wc_region ?_
    refine reg_quiet rfl (step_C tab_ok (fun K hk => hk)) ?_
    refine reg_quiet rfl (step_C tab_ok (fun K hk => hk)) ?_
    refine reg_quiet rfl (len_arr tab_ok rfl rfl) ?_
    refine reg_quiet rfl (add_int (m := 0) tab_ok rfl rfl rfl) ?_
    refine reg_quiet rfl (step_C tab_ok (fun K hk => hk)) ?_
    refine reg_nil ?_
    refine seq_n ?_
    refine wc_seq ?_
    refine wc_region ?_
    refine reg_quiet rfl (step_C tab_ok (fun K hk => hk)) ?_
    refine reg_quiet rfl (step_C tab_ok (fun K hk => hk)) ?_
    refine reg_nil ?_
    refine seq_n ?_
    refine wc_false rfl rfl ?_
    refine wc_skip ?_
    refine blk_n ?_
    refine seq_n ?_
    refine wc_region ?_
    refine reg_quiet rfl (add_int tab_ok rfl rfl (wrap_i64 (by omega) (by omega))) ?_
    refine reg_quiet rfl (step_C tab_ok (fun K hk => hk)) ?_
    refine reg_nil ?_
    refine loop_n (i + 1) [] hlt (by omega) ?_
    exact .of rfl rfl rfl rfl rfl ⟨⟨_, rfl, .refl _⟩, rfl, ⟨_, rfl, .refl _⟩, rfl, ⟨_, rfl, .refl _⟩, rfl, ⟨_, rfl, .refl _⟩, rfl, ⟨_, rfl, .refl _⟩, rfl, trivial⟩ trivial
  · refine wc_exit ?_
    refine seq_x ?_
    refine loop_x ?_
    refine blk_x ?_
    refine seq_n ?_
    refine wc_seq ?_
    refine wc_region ?_
    refine reg_quiet rfl (step_C tab_ok (fun K hk => hk)) ?_
    refine reg_quiet rfl (call_r grow_zero rfl rfl (arg_e (arg_e arg_nil)) (.inl rfl) (fun _ => rfl)) ?_
    refine reg_quiet rfl (step_C tab_ok (fun K hk => hk)) ?_
    refine reg_nil ?_
    refine seq_n ?_
    refine wc_seq ?_
    refine wc_seq ?_
    refine wc_region ?_
    refine reg_quiet rfl (step_C tab_ok (fun K hk => hk)) ?_
    refine reg_quiet rfl (len_arr tab_ok rfl rfl) ?_
    refine reg_quiet rfl (step_C tab_ok (fun K hk => hk)) ?_
    refine reg_nil ?_
    refine seq_n ?_
    refine wc_block ?_
    refine wc_inv (fun i : Nat => ⟨[(27, .int .i64 i), (26, .int .i64 ls.length), (25, .d (.arr 1 encSl ls)), (6, .d (.sc nil_))], [], 72, Try.f91.ntmps, 64⟩) (fun i => i ≤ ls.length) (fun i => ls.length - i) 0 [] (Nat.zero_le _)
      (.of rfl rfl rfl rfl rfl ⟨⟨_, rfl, .refl _⟩, rfl, ⟨_, rfl, .refl _⟩, rfl, ⟨_, rfl, .refl _⟩, rfl, ⟨_, rfl, .refl _⟩, rfl, trivial⟩ trivial) ?_
    intro i hi
    refine wc_of ?_
    refine wc_seq ?_
    refine wc_region ?_
    refine reg_quiet rfl (step_C tab_ok (fun K hk => hk)) ?_
    refine reg_nil ?_
    refine seq_n ?_
    refine wc_seq ?_
    refine wc_cond rfl (fun h2 => ?_) (fun h2 => ?_)
    · have hlt : i < ls.length := by have := of_decide_eq_true h2; omega
      obtain ⟨x, hx⟩ : ∃ u, ls[i]? = some u := ⟨_, List.getElem?_eq_getElem hlt⟩
      obtain rfl := no_flat h0 hx
      have hx' : ls[((i : Int)).toNat]? = some [] := by rw [Int.toNat_natCast]; exact hx
      refine wc_skip ?_
      refine seq_n ?_
      refine wc_seq ?_
      refine wc_block ?_
      refine wc_seq ?_
      refine wc_region ?_
      refine reg_quiet rfl (index_arr tab_ok rfl rfl rfl rfl rfl (by omega) (by assumption)) ?_
      refine reg_quiet rfl (load_i tab_ok rfl rfl) ?_
      refine reg_quiet rfl (step_C tab_ok (fun K hk => hk)) ?_
      refine reg_nil ?_
      refine seq_n ?_
      refine wc_region ?_
      refine reg_quiet rfl (step_C tab_ok (fun K hk => hk)) ?_
      refine reg_quiet rfl (step_C tab_ok (fun K hk => hk)) ?_
      refine reg_quiet rfl (append_n_e (α := LUse) (s := 20) (enc := encUse) tab_ok rfl rfl rfl rfl) ?_
      refine reg_quiet rfl (step_C tab_ok (fun K hk => hk)) ?_
      refine reg_nil ?_
      refine blk_n ?_
      refine seq_n ?_
      refine wc_region ?_
      refine reg_quiet rfl (add_int tab_ok rfl rfl (wrap_i64 (by omega) (by omega))) ?_
      refine reg_quiet rfl (step_C tab_ok (fun K hk => hk)) ?_
      refine reg_nil ?_
      refine loop_n (i + 1) [] hlt (by omega) ?_
      exact .of rfl rfl rfl rfl rfl ⟨⟨_, rfl, .refl _⟩, rfl, ⟨_, rfl, .refl _⟩, rfl, ⟨_, rfl, .refl _⟩, rfl, ⟨_, rfl, .refl _⟩, rfl, trivial⟩ trivial
    · refine wc_exit ?_
      refine seq_x ?_
      refine loop_x ?_
      refine blk_x ?_
      refine seq_n ?_
      refine wc_seq ?_
      refine wc_region ?_
      refine reg_quiet rfl (step_C tab_ok (fun K hk => hk)) ?_
      refine reg_quiet rfl (step_C tab_ok (fun K hk => hk)) ?_
      refine reg_nil ?_
      refine seq_n ?_
      refine wc_ret ?_
      exact ⟨trivial, [], .of rfl rfl rfl rfl rfl ⟨⟨_, rfl, AVLe.of_eq rfl⟩, rfl, trivial⟩ trivial⟩
end Go.Proofs.Ytjpjchohpjbknaa
