/- Frames: the contracts of the functions that look at one frame or search a list. -/
import Derived.Test.YtmdfeekpehcieaaChecked
import Derived.Test.YtmdfeekpehcieaaEngB
import Derived.KernelRfl

set_option linter.unusedVariables false
set_option linter.unusedSimpArgs false

/- The table of types that the walks use: each row is checked against the loaded program. By a small program (gen_tab.py). -/
namespace Go.Proofs.Ytmdfeekpehcieaa
open Go.Eng
-- 1: func()
abbrev r1 : TyR := { desc := .cell, size := 1, bytes := 8, zero := .sc .nilFunc }
theorem ty1 : TyOk Try.prog 1 r1 := TyOk.mk' (by kernel_rfl) (by kernel_rfl) Try.underlying1 (by kernel_rfl) (by kernel_rfl)
-- 2: int64
abbrev r2 : TyR := { desc := .int .i64, size := 1, bytes := 8, zero := .sc (.int .i64 0) }
theorem ty2 : TyOk Try.prog 2 r2 := TyOk.mk' (by kernel_rfl) (by kernel_rfl) Try.underlying2 (by kernel_rfl) (by kernel_rfl)
-- 3: int
abbrev r3 : TyR := { desc := .int .i64, size := 1, bytes := 8, zero := .sc (.int .i64 0) }
theorem ty3 : TyOk Try.prog 3 r3 := TyOk.mk' (by kernel_rfl) (by kernel_rfl) Try.underlying3 (by kernel_rfl) (by kernel_rfl)
-- 4: bool
abbrev r4 : TyR := { desc := .bool, size := 1, bytes := 1, zero := .sc (.bool false) }
theorem ty4 : TyOk Try.prog 4 r4 := TyOk.mk' (by kernel_rfl) (by kernel_rfl) Try.underlying4 (by kernel_rfl) (by kernel_rfl)
-- 5: uint8
abbrev r5 : TyR := { desc := .int .u8, size := 1, bytes := 1, zero := .sc (.int .u8 0) }
theorem ty5 : TyOk Try.prog 5 r5 := TyOk.mk' (by kernel_rfl) (by kernel_rfl) Try.underlying5 (by kernel_rfl) (by kernel_rfl)
-- 9: string
abbrev r9 : TyR := { desc := .string, size := 1, bytes := 16, zero := .sc (.string ⟨#[]⟩) }
theorem ty9 : TyOk Try.prog 9 r9 := TyOk.mk' (by kernel_rfl) (by kernel_rfl) Try.underlying9 (by kernel_rfl) (by kernel_rfl)
-- 12: uintptr
abbrev r12 : TyR := { desc := .int .u64, size := 1, bytes := 8, zero := .sc (.int .u64 0) }
theorem ty12 : TyOk Try.prog 12 r12 := TyOk.mk' (by kernel_rfl) (by kernel_rfl) Try.underlying12 (by kernel_rfl) (by kernel_rfl)
-- 13: struct ( msg string; addr uintptr )
abbrev r13 : TyR := { desc := .struct [(0, 9), (1, 12)], size := 2, bytes := 24, zero := .cons (.sc (.string ⟨#[]⟩)) (.cons (.sc (.int .u64 0)) (.nil)) }
theorem ty13 : TyOk Try.prog 13 r13 := TyOk.mk' (by kernel_rfl) (by kernel_rfl) Try.underlying13 (by kernel_rfl) (by kernel_rfl)
-- 20: interface ()
abbrev r20 : TyR := { desc := .cell, size := 1, bytes := 16, zero := .sc .nilIface }
theorem ty20 : TyOk Try.prog 20 r20 := TyOk.mk' (by kernel_rfl) (by kernel_rfl) Try.underlying20 (by kernel_rfl) (by kernel_rfl)
-- 21: int32
abbrev r21 : TyR := { desc := .int .i32, size := 1, bytes := 4, zero := .sc (.int .i32 0) }
theorem ty21 : TyOk Try.prog 21 r21 := TyOk.mk' (by kernel_rfl) (by kernel_rfl) Try.underlying21 (by kernel_rfl) (by kernel_rfl)
-- 22: []frames.Frame
abbrev r22 : TyR := { desc := .slice 39, size := 1, bytes := 24, zero := .sc (.slice none 0 0) }
theorem ty22 : TyOk Try.prog 22 r22 := TyOk.mk' (by kernel_rfl) (by kernel_rfl) Try.underlying22 (by kernel_rfl) (by kernel_rfl)
-- 23: func() bool
abbrev r23 : TyR := { desc := .cell, size := 1, bytes := 8, zero := .sc .nilFunc }
theorem ty23 : TyOk Try.prog 23 r23 := TyOk.mk' (by kernel_rfl) (by kernel_rfl) Try.underlying23 (by kernel_rfl) (by kernel_rfl)
-- 24: api.Errno
abbrev r24 : TyR := { desc := .int .i64, size := 1, bytes := 8, zero := .sc (.int .i64 0) }
theorem ty24 : TyOk Try.prog 24 r24 := TyOk.mk' (by kernel_rfl) (by kernel_rfl) Try.underlying24 (by kernel_rfl) (by kernel_rfl)
-- 26: func([]frames.Frame, int) (int, []frames.Frame, int, api.Errno)
abbrev r26 : TyR := { desc := .cell, size := 1, bytes := 8, zero := .sc .nilFunc }
theorem ty26 : TyOk Try.prog 26 r26 := TyOk.mk' (by kernel_rfl) (by kernel_rfl) Try.underlying26 (by kernel_rfl) (by kernel_rfl)
-- 27: func([]frames.Frame) bool
abbrev r27 : TyR := { desc := .cell, size := 1, bytes := 8, zero := .sc .nilFunc }
theorem ty27 : TyOk Try.prog 27 r27 := TyOk.mk' (by kernel_rfl) (by kernel_rfl) Try.underlying27 (by kernel_rfl) (by kernel_rfl)
-- 28: func([]frames.Frame) int
abbrev r28 : TyR := { desc := .cell, size := 1, bytes := 8, zero := .sc .nilFunc }
theorem ty28 : TyOk Try.prog 28 r28 := TyOk.mk' (by kernel_rfl) (by kernel_rfl) Try.underlying28 (by kernel_rfl) (by kernel_rfl)
-- 30: func([]frames.Frame, int) (int, []frames.Frame, int)
abbrev r30 : TyR := { desc := .cell, size := 1, bytes := 8, zero := .sc .nilFunc }
theorem ty30 : TyOk Try.prog 30 r30 := TyOk.mk' (by kernel_rfl) (by kernel_rfl) Try.underlying30 (by kernel_rfl) (by kernel_rfl)
-- 31: func([]frames.Frame, []frames.Frame) int
abbrev r31 : TyR := { desc := .cell, size := 1, bytes := 8, zero := .sc .nilFunc }
theorem ty31 : TyOk Try.prog 31 r31 := TyOk.mk' (by kernel_rfl) (by kernel_rfl) Try.underlying31 (by kernel_rfl) (by kernel_rfl)
-- 32: [32]uint8
abbrev r32 : TyR := { desc := .array 32 5, size := 32, bytes := 32, zero := .vec 32 1 encU8 (List.replicate 32 0) }
theorem ty32 : TyOk Try.prog 32 r32 := TyOk.mk' (by kernel_rfl) (by kernel_rfl) Try.underlying32 (by kernel_rfl) (by kernel_rfl)
-- 33: api.Block
abbrev r33 : TyR := { desc := .array 32 5, size := 32, bytes := 32, zero := .vec 32 1 encU8 (List.replicate 32 0) }
theorem ty33 : TyOk Try.prog 33 r33 := TyOk.mk' (by kernel_rfl) (by kernel_rfl) Try.underlying33 (by kernel_rfl) (by kernel_rfl)
-- 34: uint32
abbrev r34 : TyR := { desc := .int .u32, size := 1, bytes := 4, zero := .sc (.int .u32 0) }
theorem ty34 : TyOk Try.prog 34 r34 := TyOk.mk' (by kernel_rfl) (by kernel_rfl) Try.underlying34 (by kernel_rfl) (by kernel_rfl)
-- 35: uint64
abbrev r35 : TyR := { desc := .int .u64, size := 1, bytes := 8, zero := .sc (.int .u64 0) }
theorem ty35 : TyOk Try.prog 35 r35 := TyOk.mk' (by kernel_rfl) (by kernel_rfl) Try.underlying35 (by kernel_rfl) (by kernel_rfl)
-- 36: struct ( Shard uint32; Counter uint64 )
abbrev r36 : TyR := { desc := .struct [(0, 34), (1, 35)], size := 2, bytes := 16, zero := .cons (.sc (.int .u32 0)) (.cons (.sc (.int .u64 0)) (.nil)) }
theorem ty36 : TyOk Try.prog 36 r36 := TyOk.mk' (by kernel_rfl) (by kernel_rfl) Try.underlying36 (by kernel_rfl) (by kernel_rfl)
-- 37: api.Nonce
abbrev r37 : TyR := { desc := .struct [(0, 34), (1, 35)], size := 2, bytes := 16, zero := .cons (.sc (.int .u32 0)) (.cons (.sc (.int .u64 0)) (.nil)) }
theorem ty37 : TyOk Try.prog 37 r37 := TyOk.mk' (by kernel_rfl) (by kernel_rfl) Try.underlying37 (by kernel_rfl) (by kernel_rfl)
-- 38: struct ( Used bool; Block int; Data api.Block; Dirty bool; Busy bool; Loading bool; Ref bool; Nonce api.Nonce )
abbrev r38 : TyR := { desc := .struct [(0, 4), (1, 3), (2, 33), (34, 4), (35, 4), (36, 4), (37, 4), (38, 37)], size := 40, bytes := 72, zero := .cons (.sc (.bool false)) (.cons (.sc (.int .i64 0)) (.cons (.vec 32 1 encU8 (List.replicate 32 0)) (.cons (.sc (.bool false)) (.cons (.sc (.bool false)) (.cons (.sc (.bool false)) (.cons (.sc (.bool false)) (.cons (.cons (.sc (.int .u32 0)) (.cons (.sc (.int .u64 0)) (.nil))) (.nil)))))))) }
theorem ty38 : TyOk Try.prog 38 r38 := TyOk.mk' (by kernel_rfl) (by kernel_rfl) Try.underlying38 (by kernel_rfl) (by kernel_rfl)
-- 39: frames.Frame
abbrev r39 : TyR := { desc := .struct [(0, 4), (1, 3), (2, 33), (34, 4), (35, 4), (36, 4), (37, 4), (38, 37)], size := 40, bytes := 72, zero := .cons (.sc (.bool false)) (.cons (.sc (.int .i64 0)) (.cons (.vec 32 1 encU8 (List.replicate 32 0)) (.cons (.sc (.bool false)) (.cons (.sc (.bool false)) (.cons (.sc (.bool false)) (.cons (.sc (.bool false)) (.cons (.cons (.sc (.int .u32 0)) (.cons (.sc (.int .u64 0)) (.nil))) (.nil)))))))) }
theorem ty39 : TyOk Try.prog 39 r39 := TyOk.mk' (by kernel_rfl) (by kernel_rfl) Try.underlying39 (by kernel_rfl) (by kernel_rfl)
-- 40: func(frames.Frame) int
abbrev r40 : TyR := { desc := .cell, size := 1, bytes := 8, zero := .sc .nilFunc }
theorem ty40 : TyOk Try.prog 40 r40 := TyOk.mk' (by kernel_rfl) (by kernel_rfl) Try.underlying40 (by kernel_rfl) (by kernel_rfl)
-- 41: func([]frames.Frame, int) bool
abbrev r41 : TyR := { desc := .cell, size := 1, bytes := 8, zero := .sc .nilFunc }
theorem ty41 : TyOk Try.prog 41 r41 := TyOk.mk' (by kernel_rfl) (by kernel_rfl) Try.underlying41 (by kernel_rfl) (by kernel_rfl)
-- 42: []uint8
abbrev r42 : TyR := { desc := .slice 5, size := 1, bytes := 24, zero := .sc (.slice none 0 0) }
theorem ty42 : TyOk Try.prog 42 r42 := TyOk.mk' (by kernel_rfl) (by kernel_rfl) Try.underlying42 (by kernel_rfl) (by kernel_rfl)
-- 43: struct ( L []uint8 )
abbrev r43 : TyR := { desc := .struct [(0, 42)], size := 1, bytes := 24, zero := .cons (.sc (.slice none 0 0)) (.nil) }
theorem ty43 : TyOk Try.prog 43 r43 := TyOk.mk' (by kernel_rfl) (by kernel_rfl) Try.underlying43 (by kernel_rfl) (by kernel_rfl)
-- 44: caissonlaw27.F
abbrev r44 : TyR := { desc := .struct [(0, 42)], size := 1, bytes := 24, zero := .cons (.sc (.slice none 0 0)) (.nil) }
theorem ty44 : TyOk Try.prog 44 r44 := TyOk.mk' (by kernel_rfl) (by kernel_rfl) Try.underlying44 (by kernel_rfl) (by kernel_rfl)
-- 45: func() []frames.Frame
abbrev r45 : TyR := { desc := .cell, size := 1, bytes := 8, zero := .sc .nilFunc }
theorem ty45 : TyOk Try.prog 45 r45 := TyOk.mk' (by kernel_rfl) (by kernel_rfl) Try.underlying45 (by kernel_rfl) (by kernel_rfl)
-- 46: func(int, int) frames.Frame
abbrev r46 : TyR := { desc := .cell, size := 1, bytes := 8, zero := .sc .nilFunc }
theorem ty46 : TyOk Try.prog 46 r46 := TyOk.mk' (by kernel_rfl) (by kernel_rfl) Try.underlying46 (by kernel_rfl) (by kernel_rfl)
-- 47: []int
abbrev r47 : TyR := { desc := .slice 3, size := 1, bytes := 24, zero := .sc (.slice none 0 0) }
theorem ty47 : TyOk Try.prog 47 r47 := TyOk.mk' (by kernel_rfl) (by kernel_rfl) Try.underlying47 (by kernel_rfl) (by kernel_rfl)
-- 48: func(caissonlaw27.F, uint8) bool
abbrev r48 : TyR := { desc := .cell, size := 1, bytes := 8, zero := .sc .nilFunc }
theorem ty48 : TyOk Try.prog 48 r48 := TyOk.mk' (by kernel_rfl) (by kernel_rfl) Try.underlying48 (by kernel_rfl) (by kernel_rfl)
-- 49: func(caissonlaw27.F, uint8, uint8) bool
abbrev r49 : TyR := { desc := .cell, size := 1, bytes := 8, zero := .sc .nilFunc }
theorem ty49 : TyOk Try.prog 49 r49 := TyOk.mk' (by kernel_rfl) (by kernel_rfl) Try.underlying49 (by kernel_rfl) (by kernel_rfl)
-- 50: func(frames.Frame) api.Errno
abbrev r50 : TyR := { desc := .cell, size := 1, bytes := 8, zero := .sc .nilFunc }
theorem ty50 : TyOk Try.prog 50 r50 := TyOk.mk' (by kernel_rfl) (by kernel_rfl) Try.underlying50 (by kernel_rfl) (by kernel_rfl)
-- 51: func(frames.Frame) bool
abbrev r51 : TyR := { desc := .cell, size := 1, bytes := 8, zero := .sc .nilFunc }
theorem ty51 : TyOk Try.prog 51 r51 := TyOk.mk' (by kernel_rfl) (by kernel_rfl) Try.underlying51 (by kernel_rfl) (by kernel_rfl)
-- 53: func([]frames.Frame, int) (int, bool)
abbrev r53 : TyR := { desc := .cell, size := 1, bytes := 8, zero := .sc .nilFunc }
theorem ty53 : TyOk Try.prog 53 r53 := TyOk.mk' (by kernel_rfl) (by kernel_rfl) Try.underlying53 (by kernel_rfl) (by kernel_rfl)
-- 54: func([]frames.Frame, int) int
abbrev r54 : TyR := { desc := .cell, size := 1, bytes := 8, zero := .sc .nilFunc }
theorem ty54 : TyOk Try.prog 54 r54 := TyOk.mk' (by kernel_rfl) (by kernel_rfl) Try.underlying54 (by kernel_rfl) (by kernel_rfl)
-- 55: func([]frames.Frame) (int, bool)
abbrev r55 : TyR := { desc := .cell, size := 1, bytes := 8, zero := .sc .nilFunc }
theorem ty55 : TyOk Try.prog 55 r55 := TyOk.mk' (by kernel_rfl) (by kernel_rfl) Try.underlying55 (by kernel_rfl) (by kernel_rfl)
-- 56: func([]frames.Frame, []frames.Frame) bool
abbrev r56 : TyR := { desc := .cell, size := 1, bytes := 8, zero := .sc .nilFunc }
theorem ty56 : TyOk Try.prog 56 r56 := TyOk.mk' (by kernel_rfl) (by kernel_rfl) Try.underlying56 (by kernel_rfl) (by kernel_rfl)
-- 57: func([]frames.Frame, []frames.Frame, int) bool
abbrev r57 : TyR := { desc := .cell, size := 1, bytes := 8, zero := .sc .nilFunc }
theorem ty57 : TyOk Try.prog 57 r57 := TyOk.mk' (by kernel_rfl) (by kernel_rfl) Try.underlying57 (by kernel_rfl) (by kernel_rfl)
-- 58: struct ( F caissonlaw27.F; Hand uint8 )
abbrev r58 : TyR := { desc := .struct [(0, 44), (1, 5)], size := 2, bytes := 32, zero := .cons (.cons (.sc (.slice none 0 0)) (.nil)) (.cons (.sc (.int .u8 0)) (.nil)) }
theorem ty58 : TyOk Try.prog 58 r58 := TyOk.mk' (by kernel_rfl) (by kernel_rfl) Try.underlying58 (by kernel_rfl) (by kernel_rfl)
-- 59: caissonlaw28.S
abbrev r59 : TyR := { desc := .struct [(0, 44), (1, 5)], size := 2, bytes := 32, zero := .cons (.cons (.sc (.slice none 0 0)) (.nil)) (.cons (.sc (.int .u8 0)) (.nil)) }
theorem ty59 : TyOk Try.prog 59 r59 := TyOk.mk' (by kernel_rfl) (by kernel_rfl) Try.underlying59 (by kernel_rfl) (by kernel_rfl)
-- 60: struct ( Frames []frames.Frame; Hand int )
abbrev r60 : TyR := { desc := .struct [(0, 22), (1, 3)], size := 2, bytes := 32, zero := .cons (.sc (.slice none 0 0)) (.cons (.sc (.int .i64 0)) (.nil)) }
theorem ty60 : TyOk Try.prog 60 r60 := TyOk.mk' (by kernel_rfl) (by kernel_rfl) Try.underlying60 (by kernel_rfl) (by kernel_rfl)
-- 61: shards.Shard
abbrev r61 : TyR := { desc := .struct [(0, 22), (1, 3)], size := 2, bytes := 32, zero := .cons (.sc (.slice none 0 0)) (.cons (.sc (.int .i64 0)) (.nil)) }
theorem ty61 : TyOk Try.prog 61 r61 := TyOk.mk' (by kernel_rfl) (by kernel_rfl) Try.underlying61 (by kernel_rfl) (by kernel_rfl)
-- 62: func() shards.Shard
abbrev r62 : TyR := { desc := .cell, size := 1, bytes := 8, zero := .sc .nilFunc }
theorem ty62 : TyOk Try.prog 62 r62 := TyOk.mk' (by kernel_rfl) (by kernel_rfl) Try.underlying62 (by kernel_rfl) (by kernel_rfl)
-- 64: func(shards.Shard, int, bool) (shards.Shard, int, int)
abbrev r64 : TyR := { desc := .cell, size := 1, bytes := 8, zero := .sc .nilFunc }
theorem ty64 : TyOk Try.prog 64 r64 := TyOk.mk' (by kernel_rfl) (by kernel_rfl) Try.underlying64 (by kernel_rfl) (by kernel_rfl)
-- 66: func(shards.Shard, int, bool) (shards.Shard, int, api.Errno)
abbrev r66 : TyR := { desc := .cell, size := 1, bytes := 8, zero := .sc .nilFunc }
theorem ty66 : TyOk Try.prog 66 r66 := TyOk.mk' (by kernel_rfl) (by kernel_rfl) Try.underlying66 (by kernel_rfl) (by kernel_rfl)
-- 67: func(shards.Shard, shards.Shard) int
abbrev r67 : TyR := { desc := .cell, size := 1, bytes := 8, zero := .sc .nilFunc }
theorem ty67 : TyOk Try.prog 67 r67 := TyOk.mk' (by kernel_rfl) (by kernel_rfl) Try.underlying67 (by kernel_rfl) (by kernel_rfl)
-- 69: func(shards.Shard, int) (shards.Shard, api.Errno)
abbrev r69 : TyR := { desc := .cell, size := 1, bytes := 8, zero := .sc .nilFunc }
theorem ty69 : TyOk Try.prog 69 r69 := TyOk.mk' (by kernel_rfl) (by kernel_rfl) Try.underlying69 (by kernel_rfl) (by kernel_rfl)
-- 70: func(caissonlaw28.S, int, bool) bool
abbrev r70 : TyR := { desc := .cell, size := 1, bytes := 8, zero := .sc .nilFunc }
theorem ty70 : TyOk Try.prog 70 r70 := TyOk.mk' (by kernel_rfl) (by kernel_rfl) Try.underlying70 (by kernel_rfl) (by kernel_rfl)
-- 71: func(shards.Shard, int) (int, bool)
abbrev r71 : TyR := { desc := .cell, size := 1, bytes := 8, zero := .sc .nilFunc }
theorem ty71 : TyOk Try.prog 71 r71 := TyOk.mk' (by kernel_rfl) (by kernel_rfl) Try.underlying71 (by kernel_rfl) (by kernel_rfl)
-- 72: func(shards.Shard, int) bool
abbrev r72 : TyR := { desc := .cell, size := 1, bytes := 8, zero := .sc .nilFunc }
theorem ty72 : TyOk Try.prog 72 r72 := TyOk.mk' (by kernel_rfl) (by kernel_rfl) Try.underlying72 (by kernel_rfl) (by kernel_rfl)
-- 73: func(shards.Shard, int, int) int
abbrev r73 : TyR := { desc := .cell, size := 1, bytes := 8, zero := .sc .nilFunc }
theorem ty73 : TyOk Try.prog 73 r73 := TyOk.mk' (by kernel_rfl) (by kernel_rfl) Try.underlying73 (by kernel_rfl) (by kernel_rfl)
-- 74: func(shards.Shard, shards.Shard) bool
abbrev r74 : TyR := { desc := .cell, size := 1, bytes := 8, zero := .sc .nilFunc }
theorem ty74 : TyOk Try.prog 74 r74 := TyOk.mk' (by kernel_rfl) (by kernel_rfl) Try.underlying74 (by kernel_rfl) (by kernel_rfl)
-- 75: func(shards.Shard, shards.Shard, int) bool
abbrev r75 : TyR := { desc := .cell, size := 1, bytes := 8, zero := .sc .nilFunc }
theorem ty75 : TyOk Try.prog 75 r75 := TyOk.mk' (by kernel_rfl) (by kernel_rfl) Try.underlying75 (by kernel_rfl) (by kernel_rfl)
-- 76: [3]uint8
abbrev r76 : TyR := { desc := .array 3 5, size := 3, bytes := 3, zero := .vec 3 1 encU8 (List.replicate 3 0) }
theorem ty76 : TyOk Try.prog 76 r76 := TyOk.mk' (by kernel_rfl) (by kernel_rfl) Try.underlying76 (by kernel_rfl) (by kernel_rfl)
-- 77: func(uint8) api.Block
abbrev r77 : TyR := { desc := .cell, size := 1, bytes := 8, zero := .sc .nilFunc }
theorem ty77 : TyOk Try.prog 77 r77 := TyOk.mk' (by kernel_rfl) (by kernel_rfl) Try.underlying77 (by kernel_rfl) (by kernel_rfl)
-- 79: func(shards.Shard, int, int, api.Block, api.Nonce) (shards.Shard, int)
abbrev r79 : TyR := { desc := .cell, size := 1, bytes := 8, zero := .sc .nilFunc }
theorem ty79 : TyOk Try.prog 79 r79 := TyOk.mk' (by kernel_rfl) (by kernel_rfl) Try.underlying79 (by kernel_rfl) (by kernel_rfl)
-- 80: func(shards.Shard, int, int, api.Block, api.Nonce) (shards.Shard, api.Errno)
abbrev r80 : TyR := { desc := .cell, size := 1, bytes := 8, zero := .sc .nilFunc }
theorem ty80 : TyOk Try.prog 80 r80 := TyOk.mk' (by kernel_rfl) (by kernel_rfl) Try.underlying80 (by kernel_rfl) (by kernel_rfl)
-- 81: func(shards.Shard) (shards.Shard, int, api.Errno)
abbrev r81 : TyR := { desc := .cell, size := 1, bytes := 8, zero := .sc .nilFunc }
theorem ty81 : TyOk Try.prog 81 r81 := TyOk.mk' (by kernel_rfl) (by kernel_rfl) Try.underlying81 (by kernel_rfl) (by kernel_rfl)
-- 82: func(shards.Shard) (shards.Shard, int, int)
abbrev r82 : TyR := { desc := .cell, size := 1, bytes := 8, zero := .sc .nilFunc }
theorem ty82 : TyOk Try.prog 82 r82 := TyOk.mk' (by kernel_rfl) (by kernel_rfl) Try.underlying82 (by kernel_rfl) (by kernel_rfl)
-- 83: func(caissonlaw28.S, int, [3]uint8) bool
abbrev r83 : TyR := { desc := .cell, size := 1, bytes := 8, zero := .sc .nilFunc }
theorem ty83 : TyOk Try.prog 83 r83 := TyOk.mk' (by kernel_rfl) (by kernel_rfl) Try.underlying83 (by kernel_rfl) (by kernel_rfl)
-- 84: [][3]uint8
abbrev r84 : TyR := { desc := .slice 76, size := 1, bytes := 24, zero := .sc (.slice none 0 0) }
theorem ty84 : TyOk Try.prog 84 r84 := TyOk.mk' (by kernel_rfl) (by kernel_rfl) Try.underlying84 (by kernel_rfl) (by kernel_rfl)
-- 85: func(shards.Shard) api.Errno
abbrev r85 : TyR := { desc := .cell, size := 1, bytes := 8, zero := .sc .nilFunc }
theorem ty85 : TyOk Try.prog 85 r85 := TyOk.mk' (by kernel_rfl) (by kernel_rfl) Try.underlying85 (by kernel_rfl) (by kernel_rfl)
-- 86: func(shards.Shard) int
abbrev r86 : TyR := { desc := .cell, size := 1, bytes := 8, zero := .sc .nilFunc }
theorem ty86 : TyOk Try.prog 86 r86 := TyOk.mk' (by kernel_rfl) (by kernel_rfl) Try.underlying86 (by kernel_rfl) (by kernel_rfl)
-- 87: func(caissonlaw28.S, [][3]uint8) bool
abbrev r87 : TyR := { desc := .cell, size := 1, bytes := 8, zero := .sc .nilFunc }
theorem ty87 : TyOk Try.prog 87 r87 := TyOk.mk' (by kernel_rfl) (by kernel_rfl) Try.underlying87 (by kernel_rfl) (by kernel_rfl)
-- 88: func(int) (shards.Shard, api.Errno)
abbrev r88 : TyR := { desc := .cell, size := 1, bytes := 8, zero := .sc .nilFunc }
theorem ty88 : TyOk Try.prog 88 r88 := TyOk.mk' (by kernel_rfl) (by kernel_rfl) Try.underlying88 (by kernel_rfl) (by kernel_rfl)
-- 89: []string
abbrev r89 : TyR := { desc := .slice 9, size := 1, bytes := 24, zero := .sc (.slice none 0 0) }
theorem ty89 : TyOk Try.prog 89 r89 := TyOk.mk' (by kernel_rfl) (by kernel_rfl) Try.underlying89 (by kernel_rfl) (by kernel_rfl)
-- 90: func(string) []frames.Frame
abbrev r90 : TyR := { desc := .cell, size := 1, bytes := 8, zero := .sc .nilFunc }
theorem ty90 : TyOk Try.prog 90 r90 := TyOk.mk' (by kernel_rfl) (by kernel_rfl) Try.underlying90 (by kernel_rfl) (by kernel_rfl)
-- 91: [6]int
abbrev r91 : TyR := { desc := .array 6 3, size := 6, bytes := 48, zero := .cons (.sc (.int .i64 0)) (.cons (.sc (.int .i64 0)) (.cons (.sc (.int .i64 0)) (.cons (.sc (.int .i64 0)) (.cons (.sc (.int .i64 0)) (.cons (.sc (.int .i64 0)) (.nil)))))) }
theorem ty91 : TyOk Try.prog 91 r91 := TyOk.mk' (by kernel_rfl) (by kernel_rfl) Try.underlying91 (by kernel_rfl) (by kernel_rfl)
-- 92: [6]string
abbrev r92 : TyR := { desc := .array 6 9, size := 6, bytes := 96, zero := .cons (.sc (.string ⟨#[]⟩)) (.cons (.sc (.string ⟨#[]⟩)) (.cons (.sc (.string ⟨#[]⟩)) (.cons (.sc (.string ⟨#[]⟩)) (.cons (.sc (.string ⟨#[]⟩)) (.cons (.sc (.string ⟨#[]⟩)) (.nil)))))) }
theorem ty92 : TyOk Try.prog 92 r92 := TyOk.mk' (by kernel_rfl) (by kernel_rfl) Try.underlying92 (by kernel_rfl) (by kernel_rfl)
-- 93: func([]frames.Frame, func(frames.Frame) bool) (int, bool)
abbrev r93 : TyR := { desc := .cell, size := 1, bytes := 8, zero := .sc .nilFunc }
theorem ty93 : TyOk Try.prog 93 r93 := TyOk.mk' (by kernel_rfl) (by kernel_rfl) Try.underlying93 (by kernel_rfl) (by kernel_rfl)
-- 94: func(func(int) bool)
abbrev r94 : TyR := { desc := .cell, size := 1, bytes := 8, zero := .sc .nilFunc }
theorem ty94 : TyOk Try.prog 94 r94 := TyOk.mk' (by kernel_rfl) (by kernel_rfl) Try.underlying94 (by kernel_rfl) (by kernel_rfl)
-- 95: iter.Seq[int]
abbrev r95 : TyR := { desc := .cell, size := 1, bytes := 8, zero := .sc .nilFunc }
theorem ty95 : TyOk Try.prog 95 r95 := TyOk.mk' (by kernel_rfl) (by kernel_rfl) Try.underlying95 (by kernel_rfl) (by kernel_rfl)
-- 96: func(int, int) iter.Seq[int]
abbrev r96 : TyR := { desc := .cell, size := 1, bytes := 8, zero := .sc .nilFunc }
theorem ty96 : TyOk Try.prog 96 r96 := TyOk.mk' (by kernel_rfl) (by kernel_rfl) Try.underlying96 (by kernel_rfl) (by kernel_rfl)
-- 97: func([]frames.Frame, func(frames.Frame) bool) bool
abbrev r97 : TyR := { desc := .cell, size := 1, bytes := 8, zero := .sc .nilFunc }
theorem ty97 : TyOk Try.prog 97 r97 := TyOk.mk' (by kernel_rfl) (by kernel_rfl) Try.underlying97 (by kernel_rfl) (by kernel_rfl)
-- 98: func(int, int) int
abbrev r98 : TyR := { desc := .cell, size := 1, bytes := 8, zero := .sc .nilFunc }
theorem ty98 : TyOk Try.prog 98 r98 := TyOk.mk' (by kernel_rfl) (by kernel_rfl) Try.underlying98 (by kernel_rfl) (by kernel_rfl)
-- 99: func(shards.Shard) shards.Shard
abbrev r99 : TyR := { desc := .cell, size := 1, bytes := 8, zero := .sc .nilFunc }
theorem ty99 : TyOk Try.prog 99 r99 := TyOk.mk' (by kernel_rfl) (by kernel_rfl) Try.underlying99 (by kernel_rfl) (by kernel_rfl)
-- 100: func(shards.Shard, int, api.Block, api.Nonce) (shards.Shard, api.Errno)
abbrev r100 : TyR := { desc := .cell, size := 1, bytes := 8, zero := .sc .nilFunc }
theorem ty100 : TyOk Try.prog 100 r100 := TyOk.mk' (by kernel_rfl) (by kernel_rfl) Try.underlying100 (by kernel_rfl) (by kernel_rfl)
-- 101: func(shards.Shard, int, func(*frames.Frame) bool) (shards.Shard, api.Errno)
abbrev r101 : TyR := { desc := .cell, size := 1, bytes := 8, zero := .sc .nilFunc }
theorem ty101 : TyOk Try.prog 101 r101 := TyOk.mk' (by kernel_rfl) (by kernel_rfl) Try.underlying101 (by kernel_rfl) (by kernel_rfl)
-- 102: *frames.Frame
abbrev r102 : TyR := { desc := .cell, size := 1, bytes := 8, zero := .sc (.pointer none) }
theorem ty102 : TyOk Try.prog 102 r102 := TyOk.mk' (by kernel_rfl) (by kernel_rfl) Try.underlying102 (by kernel_rfl) (by kernel_rfl)
-- 103: func(*frames.Frame) bool
abbrev r103 : TyR := { desc := .cell, size := 1, bytes := 8, zero := .sc .nilFunc }
theorem ty103 : TyOk Try.prog 103 r103 := TyOk.mk' (by kernel_rfl) (by kernel_rfl) Try.underlying103 (by kernel_rfl) (by kernel_rfl)
-- 104: func(shards.Shard, int, func(frames.Frame) bool) bool
abbrev r104 : TyR := { desc := .cell, size := 1, bytes := 8, zero := .sc .nilFunc }
theorem ty104 : TyOk Try.prog 104 r104 := TyOk.mk' (by kernel_rfl) (by kernel_rfl) Try.underlying104 (by kernel_rfl) (by kernel_rfl)
-- 105: func(frames.Frame, int) int
abbrev r105 : TyR := { desc := .cell, size := 1, bytes := 8, zero := .sc .nilFunc }
theorem ty105 : TyOk Try.prog 105 r105 := TyOk.mk' (by kernel_rfl) (by kernel_rfl) Try.underlying105 (by kernel_rfl) (by kernel_rfl)
-- 106: func(shards.Shard, int, api.Block) (shards.Shard, api.Errno)
abbrev r106 : TyR := { desc := .cell, size := 1, bytes := 8, zero := .sc .nilFunc }
theorem ty106 : TyOk Try.prog 106 r106 := TyOk.mk' (by kernel_rfl) (by kernel_rfl) Try.underlying106 (by kernel_rfl) (by kernel_rfl)
-- 107: func([]frames.Frame, func(frames.Frame) bool) int
abbrev r107 : TyR := { desc := .cell, size := 1, bytes := 8, zero := .sc .nilFunc }
theorem ty107 : TyOk Try.prog 107 r107 := TyOk.mk' (by kernel_rfl) (by kernel_rfl) Try.underlying107 (by kernel_rfl) (by kernel_rfl)
-- 108: func(int) bool
abbrev r108 : TyR := { desc := .cell, size := 1, bytes := 8, zero := .sc .nilFunc }
theorem ty108 : TyOk Try.prog 108 r108 := TyOk.mk' (by kernel_rfl) (by kernel_rfl) Try.underlying108 (by kernel_rfl) (by kernel_rfl)
-- 109: func() string
abbrev r109 : TyR := { desc := .cell, size := 1, bytes := 8, zero := .sc .nilFunc }
theorem ty109 : TyOk Try.prog 109 r109 := TyOk.mk' (by kernel_rfl) (by kernel_rfl) Try.underlying109 (by kernel_rfl) (by kernel_rfl)
-- 112: [0]*runtime.PanicNilError
abbrev r112 : TyR := { desc := .array 0 16, size := 0, bytes := 0, zero := .nil }
theorem ty112 : TyOk Try.prog 112 r112 := TyOk.mk' (by kernel_rfl) (by kernel_rfl) Try.underlying112 (by kernel_rfl) (by kernel_rfl)
-- 115: func() int
abbrev r115 : TyR := { desc := .cell, size := 1, bytes := 8, zero := .sc .nilFunc }
theorem ty115 : TyOk Try.prog 115 r115 := TyOk.mk' (by kernel_rfl) (by kernel_rfl) Try.underlying115 (by kernel_rfl) (by kernel_rfl)
-- 118: func(unsafe.Pointer, unsafe.Pointer) bool
abbrev r118 : TyR := { desc := .cell, size := 1, bytes := 8, zero := .sc .nilFunc }
theorem ty118 : TyOk Try.prog 118 r118 := TyOk.mk' (by kernel_rfl) (by kernel_rfl) Try.underlying118 (by kernel_rfl) (by kernel_rfl)
-- 119: *uint8
abbrev r119 : TyR := { desc := .cell, size := 1, bytes := 8, zero := .sc (.pointer none) }
theorem ty119 : TyOk Try.prog 119 r119 := TyOk.mk' (by kernel_rfl) (by kernel_rfl) Try.underlying119 (by kernel_rfl) (by kernel_rfl)
abbrev tab : Tab := [(1, r1), (2, r2), (3, r3), (4, r4), (5, r5), (9, r9), (12, r12), (13, r13), (20, r20), (21, r21), (22, r22), (23, r23), (24, r24), (26, r26), (27, r27), (28, r28), (30, r30), (31, r31), (32, r32), (33, r33), (34, r34), (35, r35), (36, r36), (37, r37), (38, r38), (39, r39), (40, r40), (41, r41), (42, r42), (43, r43), (44, r44), (45, r45), (46, r46), (47, r47), (48, r48), (49, r49), (50, r50), (51, r51), (53, r53), (54, r54), (55, r55), (56, r56), (57, r57), (58, r58), (59, r59), (60, r60), (61, r61), (62, r62), (64, r64), (66, r66), (67, r67), (69, r69), (70, r70), (71, r71), (72, r72), (73, r73), (74, r74), (75, r75), (76, r76), (77, r77), (79, r79), (80, r80), (81, r81), (82, r82), (83, r83), (84, r84), (85, r85), (86, r86), (87, r87), (88, r88), (89, r89), (90, r90), (91, r91), (92, r92), (93, r93), (94, r94), (95, r95), (96, r96), (97, r97), (98, r98), (99, r99), (100, r100), (101, r101), (102, r102), (103, r103), (104, r104), (105, r105), (106, r106), (107, r107), (108, r108), (109, r109), (112, r112), (115, r115), (118, r118), (119, r119)]
theorem tab_ok : TabOk Try.prog tab :=
  (TabOk.cons ty1 (TabOk.cons ty2 (TabOk.cons ty3 (TabOk.cons ty4 (TabOk.cons ty5 (TabOk.cons ty9 (TabOk.cons ty12 (TabOk.cons ty13 (TabOk.cons ty20 (TabOk.cons ty21 (TabOk.cons ty22 (TabOk.cons ty23 (TabOk.cons ty24 (TabOk.cons ty26 (TabOk.cons ty27 (TabOk.cons ty28 (TabOk.cons ty30 (TabOk.cons ty31 (TabOk.cons ty32 (TabOk.cons ty33 (TabOk.cons ty34 (TabOk.cons ty35 (TabOk.cons ty36 (TabOk.cons ty37 (TabOk.cons ty38 (TabOk.cons ty39 (TabOk.cons ty40 (TabOk.cons ty41 (TabOk.cons ty42 (TabOk.cons ty43 (TabOk.cons ty44 (TabOk.cons ty45 (TabOk.cons ty46 (TabOk.cons ty47 (TabOk.cons ty48 (TabOk.cons ty49 (TabOk.cons ty50 (TabOk.cons ty51 (TabOk.cons ty53 (TabOk.cons ty54 (TabOk.cons ty55 (TabOk.cons ty56 (TabOk.cons ty57 (TabOk.cons ty58 (TabOk.cons ty59 (TabOk.cons ty60 (TabOk.cons ty61 (TabOk.cons ty62 (TabOk.cons ty64 (TabOk.cons ty66 (TabOk.cons ty67 (TabOk.cons ty69 (TabOk.cons ty70 (TabOk.cons ty71 (TabOk.cons ty72 (TabOk.cons ty73 (TabOk.cons ty74 (TabOk.cons ty75 (TabOk.cons ty76 (TabOk.cons ty77 (TabOk.cons ty79 (TabOk.cons ty80 (TabOk.cons ty81 (TabOk.cons ty82 (TabOk.cons ty83 (TabOk.cons ty84 (TabOk.cons ty85 (TabOk.cons ty86 (TabOk.cons ty87 (TabOk.cons ty88 (TabOk.cons ty89 (TabOk.cons ty90 (TabOk.cons ty91 (TabOk.cons ty92 (TabOk.cons ty93 (TabOk.cons ty94 (TabOk.cons ty95 (TabOk.cons ty96 (TabOk.cons ty97 (TabOk.cons ty98 (TabOk.cons ty99 (TabOk.cons ty100 (TabOk.cons ty101 (TabOk.cons ty102 (TabOk.cons ty103 (TabOk.cons ty104 (TabOk.cons ty105 (TabOk.cons ty106 (TabOk.cons ty107 (TabOk.cons ty108 (TabOk.cons ty109 (TabOk.cons ty112 (TabOk.cons ty115 (TabOk.cons ty118 (TabOk.cons ty119 TabOk.nil)))))))))))))))))))))))))))))))))))))))))))))))))))))))))))))))))))))))))))))))))))))))))))))))
end Go.Proofs.Ytmdfeekpehcieaa

/- Frames as data. -/
namespace Go.Proofs.Ytmdfeekpehcieaa
open Go.Eng

abbrev bo (b : Bool) : D := .sc (.bool b)
abbrev i6 (n : Int) : D := .sc (.int .i64 n)

structure Nonce where
  shard : Int
  counter : Int
  deriving DecidableEq

def encNonce (n : Nonce) : D := .cons (.sc (.int .u32 n.shard)) (.cons (.sc (.int .u64 n.counter)) .nil)
def encBlock (l : List Int) : D := .vec 32 1 encU8 l

structure Frame where
  used : Bool
  block : Int
  data : List Int
  dirty : Bool
  busy : Bool
  loading : Bool
  ref : Bool
  nonce : Nonce
  deriving DecidableEq

def encFrame (f : Frame) : D := .cons (bo f.used) (.cons (i6 f.block) (.cons (encBlock f.data) (.cons (bo f.dirty) (.cons (bo f.busy) (.cons (bo f.loading) (.cons (bo f.ref) (.cons (encNonce f.nonce) .nil)))))))
def encFrames (l : List Frame) : D := .arr 40 encFrame l

def zeroNonce : Nonce := ⟨0, 0⟩
def zeroBlock : List Int := [0, 0, 0, 0, 0, 0, 0, 0, 0, 0, 0, 0, 0, 0, 0, 0, 0, 0, 0, 0, 0, 0, 0, 0, 0, 0, 0, 0, 0, 0, 0, 0]
def zeroFrame : Frame := ⟨false, 0, zeroBlock, false, false, false, false, zeroNonce⟩

/-- What the machine can hold. -/
structure Frame.Wf (f : Frame) : Prop where
  block : (Lit.int .i64 f.block).wf = true
  data : f.data.length = 32 ∧ ∀ a ∈ f.data, (Lit.int .u8 a).wf = true
  shard : (Lit.int .u32 f.nonce.shard).wf = true
  counter : (Lit.int .u64 f.nonce.counter).wf = true

theorem nonce_eq (a b : Nonce) : EqOk Try.prog 2 37 (encNonce a) (encNonce b) (decide (a = b)) := by
  refine (eq_struct (P := Try.prog) Try.underlying37 (by kernel_rfl) rfl rfl (eqf_cons tab_ok rfl (by kernel_rfl) rfl rfl (eq_int (P := Try.prog) Try.underlying34) rfl (eqf_cons tab_ok rfl (by kernel_rfl) rfl rfl (eq_int (P := Try.prog) Try.underlying35) rfl eqf_nil))).cast ?_
  cases a; cases b
  simp

theorem block_eq (a b : List Int) : EqOk Try.prog 2 33 (encBlock a) (encBlock b) (decide (a = b)) :=
  eq_vec tab_ok (P := Try.prog) Try.underlying33 rfl (fun _ => rfl) rfl (fun _ _ => eq_int (P := Try.prog) Try.underlying5)

theorem frame_eq (a b : Frame) : EqOk Try.prog 3 39 (encFrame a) (encFrame b) (decide (a = b)) := by
  refine (eq_struct (P := Try.prog) Try.underlying39 (by kernel_rfl) rfl rfl (eqf_cons tab_ok rfl (by kernel_rfl) rfl rfl ((eq_bool (P := Try.prog) Try.underlying4).up (by decide)) rfl (eqf_cons tab_ok rfl (by kernel_rfl) rfl rfl ((eq_int (P := Try.prog) Try.underlying3).up (by decide)) rfl
    (eqf_cons tab_ok rfl (by kernel_rfl) rfl rfl (block_eq _ _) rfl (eqf_cons tab_ok rfl (by kernel_rfl) rfl rfl ((eq_bool (P := Try.prog) Try.underlying4).up (by decide)) rfl (eqf_cons tab_ok rfl (by kernel_rfl) rfl rfl ((eq_bool (P := Try.prog) Try.underlying4).up (by decide)) rfl
    (eqf_cons tab_ok rfl (by kernel_rfl) rfl rfl ((eq_bool (P := Try.prog) Try.underlying4).up (by decide)) rfl (eqf_cons tab_ok rfl (by kernel_rfl) rfl rfl ((eq_bool (P := Try.prog) Try.underlying4).up (by decide)) rfl (eqf_cons tab_ok rfl (by kernel_rfl) rfl rfl (nonce_eq _ _) rfl eqf_nil))))))))).cast ?_
  cases a; cases b
  simp

theorem opens_nonce : Opens Try.prog 37 2 encNonce fun n => (Lit.int .u32 n.shard).wf = true ∧ (Lit.int .u64 n.counter).wf = true :=
  Opens.map (opens_struct (P := Try.prog) Try.underlying37 (by kernel_rfl) (fun _ => rfl) (opensF_cons rfl (by kernel_rfl) (opens_int (P := Try.prog) Try.underlying34) (opensF_cons rfl (by kernel_rfl) (opens_int (P := Try.prog) Try.underlying35) opensF_nil)))
    (fun q => ⟨q.1, q.2.1⟩) (fun _ _ => rfl) (fun _ h => ⟨h.1, h.2.1⟩)

theorem opens_block : Opens Try.prog 33 32 encBlock fun l => l.length = 32 ∧ ∀ a ∈ l, (Lit.int .u8 a).wf = true :=
  opens_array (P := Try.prog) (n := 32) Try.underlying33 (by kernel_rfl) (by kernel_rfl) (opens_int (P := Try.prog) Try.underlying5)

theorem opens_frame : Opens Try.prog 39 40 encFrame Frame.Wf :=
  Opens.map (opens_struct (P := Try.prog) Try.underlying39 (by kernel_rfl) (fun _ => rfl) (opensF_cons rfl (by kernel_rfl) (opens_bool (P := Try.prog) Try.underlying4) (opensF_cons rfl (by kernel_rfl) (opens_int (P := Try.prog) Try.underlying3)
    (opensF_cons rfl (by kernel_rfl) opens_block (opensF_cons rfl (by kernel_rfl) (opens_bool (P := Try.prog) Try.underlying4) (opensF_cons rfl (by kernel_rfl) (opens_bool (P := Try.prog) Try.underlying4)
    (opensF_cons rfl (by kernel_rfl) (opens_bool (P := Try.prog) Try.underlying4) (opensF_cons rfl (by kernel_rfl) (opens_bool (P := Try.prog) Try.underlying4) (opensF_cons rfl (by kernel_rfl) opens_nonce opensF_nil)))))))))
    (fun q => ⟨q.1, q.2.1, q.2.2.1, q.2.2.2.1, q.2.2.2.2.1, q.2.2.2.2.2.1, q.2.2.2.2.2.2.1, q.2.2.2.2.2.2.2.1⟩) (fun _ _ => rfl) (fun _ h => ⟨h.2.1, h.2.2.1, h.2.2.2.2.2.2.2.1.1, h.2.2.2.2.2.2.2.1.2⟩)

theorem opens_frames : Opens Try.prog 22 1 encFrames fun l => l.length ≤ maxLen ∧ ∀ f ∈ l, f.Wf :=
  opens_slice (P := Try.prog) Try.underlying22 (by kernel_rfl) opens_frame

end Go.Proofs.Ytmdfeekpehcieaa

/- Check and Evictable. -/
namespace Go.Proofs.Ytmdfeekpehcieaa
open Go.Eng
set_option maxHeartbeats 1000000
attribute [local irreducible] WC RegS RegD SeqQ BlkQ ScoQ RegK CutK Sat SatN FnIs LoopQ StepIs OpIs
def evB (f : Frame) : Bool := f.used && !f.dirty && !f.busy && !f.loading
theorem evictable_is (f : Frame) : FnIs Try.prog 26 [.d (encFrame f)] [] (.bool (evB f)) [] := by
  refine fnIs_of tab_ok Try.func26 rfl rfl rfl ?_
  refine wc_seq ?_
  refine wc_region ?_
  refine reg_new (step_C tab_ok (fun K hk => hk)) rfl ?_
  refine reg_quiet rfl (step_C tab_ok (fun K hk => hk)) ?_
  refine reg_nil ?_
  refine seq_n ?_
  refine wc_seq ?_
  refine wc_region ?_
  refine reg_quiet rfl (step_C tab_ok (fun K hk => hk)) ?_
  refine reg_quiet rfl (load_box tab_ok rfl rfl ⟨_, rfl, rfl⟩ rfl) ?_
  refine reg_quiet rfl (step_C tab_ok (fun K hk => hk)) ?_
  refine reg_split rfl rfl rfl (fun hb => ?_) (fun hb => ?_)
  refine reg_on rfl rfl (by assumption) ?_
  refine reg_quiet rfl (step_C tab_ok (fun K hk => hk)) ?_
  refine reg_on rfl rfl (by assumption) ?_
  refine reg_quiet rfl (load_box tab_ok rfl rfl ⟨_, rfl, rfl⟩ rfl) ?_
  refine reg_on rfl rfl (by assumption) ?_
  refine reg_quiet rfl (step_C tab_ok (fun K hk => hk)) ?_
  refine reg_quiet rfl (pick_T tab_ok rfl (by assumption) rfl) ?_
  refine reg_quiet rfl (step_C tab_ok (fun K hk => hk)) ?_
  refine reg_split rfl rfl rfl (fun hb => ?_) (fun hb => ?_)
  refine reg_on rfl rfl (by assumption) ?_
  refine reg_quiet rfl (step_C tab_ok (fun K hk => hk)) ?_
  refine reg_on rfl rfl (by assumption) ?_
  refine reg_quiet rfl (load_box tab_ok rfl rfl ⟨_, rfl, rfl⟩ rfl) ?_
  refine reg_on rfl rfl (by assumption) ?_
  refine reg_quiet rfl (step_C tab_ok (fun K hk => hk)) ?_
  refine reg_quiet rfl (pick_T tab_ok rfl (by assumption) rfl) ?_
  refine reg_quiet rfl (step_C tab_ok (fun K hk => hk)) ?_
  refine reg_split rfl rfl rfl (fun hb => ?_) (fun hb => ?_)
  refine reg_on rfl rfl (by assumption) ?_
  refine reg_quiet rfl (step_C tab_ok (fun K hk => hk)) ?_
  refine reg_on rfl rfl (by assumption) ?_
  refine reg_quiet rfl (load_box tab_ok rfl rfl ⟨_, rfl, rfl⟩ rfl) ?_
  refine reg_on rfl rfl (by assumption) ?_
  refine reg_quiet rfl (step_C tab_ok (fun K hk => hk)) ?_
  refine reg_quiet rfl (pick_T tab_ok rfl (by assumption) rfl) ?_
  refine reg_quiet rfl (step_C tab_ok (fun K hk => hk)) ?_
  refine reg_nil ?_
  refine seq_n ?_
  refine wc_ret ?_
  rotate_left
  refine reg_skip rfl rfl (by assumption) rfl rfl ?_
  refine reg_skip rfl rfl (by assumption) rfl rfl ?_
  refine reg_skip rfl rfl (by assumption) rfl rfl ?_
  refine reg_quiet rfl (pick_F tab_ok rfl (by assumption) rfl) ?_
  refine reg_quiet rfl (step_C tab_ok (fun K hk => hk)) ?_
  refine reg_nil ?_
  refine seq_n ?_
  refine wc_ret ?_
  rotate_left
  refine reg_skip rfl rfl (by assumption) rfl rfl ?_
  refine reg_skip rfl rfl (by assumption) rfl rfl ?_
  refine reg_skip rfl rfl (by assumption) rfl rfl ?_
  refine reg_quiet rfl (pick_F tab_ok rfl (by assumption) rfl) ?_
  refine reg_quiet rfl (step_C tab_ok (fun K hk => hk)) ?_
  refine reg_skip rfl rfl rfl rfl rfl ?_
  refine reg_skip rfl rfl rfl rfl rfl ?_
  refine reg_skip rfl rfl rfl rfl rfl ?_
  refine reg_quiet rfl (pick_F tab_ok rfl rfl rfl) ?_
  refine reg_quiet rfl (step_C tab_ok (fun K hk => hk)) ?_
  refine reg_nil ?_
  refine seq_n ?_
  refine wc_ret ?_
  rotate_left
  refine reg_skip rfl rfl (by assumption) rfl rfl ?_
  refine reg_skip rfl rfl (by assumption) rfl rfl ?_
  refine reg_skip rfl rfl (by assumption) rfl rfl ?_
  refine reg_quiet rfl (pick_F tab_ok rfl (by assumption) rfl) ?_
  refine reg_quiet rfl (step_C tab_ok (fun K hk => hk)) ?_
  refine reg_skip rfl rfl rfl rfl rfl ?_
  refine reg_skip rfl rfl rfl rfl rfl ?_
  refine reg_skip rfl rfl rfl rfl rfl ?_
  refine reg_quiet rfl (pick_F tab_ok rfl rfl rfl) ?_
  refine reg_quiet rfl (step_C tab_ok (fun K hk => hk)) ?_
  refine reg_skip rfl rfl rfl rfl rfl ?_
  refine reg_skip rfl rfl rfl rfl rfl ?_
  refine reg_skip rfl rfl rfl rfl rfl ?_
  refine reg_quiet rfl (pick_F tab_ok rfl rfl rfl) ?_
  refine reg_quiet rfl (step_C tab_ok (fun K hk => hk)) ?_
  refine reg_nil ?_
  refine seq_n ?_
  refine wc_ret ?_
  rotate_left
  all_goals refine ⟨trivial, [], .of rfl rfl rfl rfl rfl ⟨⟨_, rfl, AVLe.of_eq ?_⟩, rfl, trivial⟩ trivial⟩
  all_goals (simp_all [evB, retOne, AV.ren]; done)
theorem ev_is (f : Frame) : FnIs Try.prog 21 [.d (encFrame f)] [] (.int .i64 (if evB f then 1 else 0)) [] := by
  refine fnIs_of tab_ok Try.func21 rfl rfl rfl ?_
  refine wc_seq ?_
  refine wc_region ?_
  refine reg_new (step_C tab_ok (fun K hk => hk)) rfl ?_
  refine reg_quiet rfl (step_C tab_ok (fun K hk => hk)) ?_
  refine reg_nil ?_
  refine seq_n ?_
  refine wc_seq ?_
  refine wc_seq ?_
  refine wc_region ?_
  refine reg_quiet rfl (step_C tab_ok (fun K hk => hk)) ?_
  refine reg_quiet rfl (load_box tab_ok rfl rfl ⟨_, rfl, rfl⟩ rfl) ?_
  refine reg_quiet rfl (step_C tab_ok (fun K hk => hk)) ?_
  refine reg_quiet rfl (step_C tab_ok (fun K hk => hk)) ?_
  refine reg_split rfl rfl rfl (fun hb => ?_) (fun hb => ?_)
  refine reg_on rfl rfl (by assumption) ?_
  refine reg_quiet rfl (step_C tab_ok (fun K hk => hk)) ?_
  refine reg_on rfl rfl (by assumption) ?_
  refine reg_quiet rfl (load_box tab_ok rfl rfl ⟨_, rfl, rfl⟩ rfl) ?_
  refine reg_quiet rfl (pick_F tab_ok rfl (by assumption) rfl) ?_
  refine reg_quiet rfl (step_C tab_ok (fun K hk => hk)) ?_
  refine reg_split rfl rfl rfl (fun hb => ?_) (fun hb => ?_)
  refine reg_on rfl rfl (by assumption) ?_
  refine reg_quiet rfl (step_C tab_ok (fun K hk => hk)) ?_
  refine reg_on rfl rfl (by assumption) ?_
  refine reg_quiet rfl (load_box tab_ok rfl rfl ⟨_, rfl, rfl⟩ rfl) ?_
  refine reg_quiet rfl (pick_F tab_ok rfl (by assumption) rfl) ?_
  refine reg_quiet rfl (step_C tab_ok (fun K hk => hk)) ?_
  refine reg_split rfl rfl rfl (fun hb => ?_) (fun hb => ?_)
  refine reg_on rfl rfl (by assumption) ?_
  refine reg_quiet rfl (step_C tab_ok (fun K hk => hk)) ?_
  refine reg_on rfl rfl (by assumption) ?_
  refine reg_quiet rfl (load_box tab_ok rfl rfl ⟨_, rfl, rfl⟩ rfl) ?_
  refine reg_quiet rfl (pick_F tab_ok rfl (by assumption) rfl) ?_
  refine reg_nil ?_
  refine seq_n ?_
  refine wc_cond rfl (fun hb => ?_) (fun hb => ?_)
  refine wc_seq ?_
  refine wc_region ?_
  refine reg_quiet rfl (step_C tab_ok (fun K hk => hk)) ?_
  refine reg_nil ?_
  refine seq_n ?_
  refine wc_ret ?_
  refine seq_r ?_
  rotate_left
  refine wc_skip ?_
  refine seq_n ?_
  refine wc_seq ?_
  refine wc_region ?_
  refine reg_quiet rfl (step_C tab_ok (fun K hk => hk)) ?_
  refine reg_nil ?_
  refine seq_n ?_
  refine wc_ret ?_
  rotate_left
  refine reg_skip rfl rfl (by assumption) rfl rfl ?_
  refine reg_skip rfl rfl (by assumption) rfl rfl ?_
  refine reg_quiet rfl (pick_T tab_ok rfl (by assumption) rfl) ?_
  refine reg_nil ?_
  refine seq_n ?_
  refine wc_true rfl rfl ?_
  refine wc_seq ?_
  refine wc_region ?_
  refine reg_quiet rfl (step_C tab_ok (fun K hk => hk)) ?_
  refine reg_nil ?_
  refine seq_n ?_
  refine wc_ret ?_
  refine seq_r ?_
  rotate_left
  refine reg_skip rfl rfl (by assumption) rfl rfl ?_
  refine reg_skip rfl rfl (by assumption) rfl rfl ?_
  refine reg_quiet rfl (pick_T tab_ok rfl (by assumption) rfl) ?_
  refine reg_quiet rfl (step_C tab_ok (fun K hk => hk)) ?_
  refine reg_skip rfl rfl rfl rfl rfl ?_
  refine reg_skip rfl rfl rfl rfl rfl ?_
  refine reg_quiet rfl (pick_T tab_ok rfl rfl rfl) ?_
  refine reg_nil ?_
  refine seq_n ?_
  refine wc_true rfl rfl ?_
  refine wc_seq ?_
  refine wc_region ?_
  refine reg_quiet rfl (step_C tab_ok (fun K hk => hk)) ?_
  refine reg_nil ?_
  refine seq_n ?_
  refine wc_ret ?_
  refine seq_r ?_
  rotate_left
  refine reg_skip rfl rfl (by assumption) rfl rfl ?_
  refine reg_skip rfl rfl (by assumption) rfl rfl ?_
  refine reg_quiet rfl (pick_T tab_ok rfl (by assumption) rfl) ?_
  refine reg_quiet rfl (step_C tab_ok (fun K hk => hk)) ?_
  refine reg_skip rfl rfl rfl rfl rfl ?_
  refine reg_skip rfl rfl rfl rfl rfl ?_
  refine reg_quiet rfl (pick_T tab_ok rfl rfl rfl) ?_
  refine reg_quiet rfl (step_C tab_ok (fun K hk => hk)) ?_
  refine reg_skip rfl rfl rfl rfl rfl ?_
  refine reg_skip rfl rfl rfl rfl rfl ?_
  refine reg_quiet rfl (pick_T tab_ok rfl rfl rfl) ?_
  refine reg_nil ?_
  refine seq_n ?_
  refine wc_true rfl rfl ?_
  refine wc_seq ?_
  refine wc_region ?_
  refine reg_quiet rfl (step_C tab_ok (fun K hk => hk)) ?_
  refine reg_nil ?_
  refine seq_n ?_
  refine wc_ret ?_
  refine seq_r ?_
  rotate_left
  all_goals refine ⟨trivial, [], .of rfl rfl rfl rfl rfl ⟨⟨_, rfl, AVLe.of_eq ?_⟩, rfl, trivial⟩ trivial⟩
  all_goals (simp_all [evB, retOne, AV.ren]; done)

def chk (f : Frame) : Int :=
  if (f.used && (decide (f.block < 0) || decide (f.block ≥ 4096))) = true then 1
  else if (!f.used && !decide (f = zeroFrame)) = true then 10
  else if ((f.busy && !f.dirty) || (!f.dirty && !decide (f.nonce = zeroNonce))) = true then 10
  else if (f.loading && (f.dirty || f.ref || !decide (f.data = zeroBlock))) = true then 10 else 0
theorem check_is (f : Frame) : FnIs Try.prog 24 [.d (encFrame f)] [] (.int .i64 (chk f)) [] := by
  refine fnIs_of tab_ok Try.func24 rfl rfl rfl ?_
  refine wc_seq ?_
  refine wc_region ?_
  refine reg_new (step_C tab_ok (fun K hk => hk)) rfl ?_
  refine reg_quiet rfl (step_C tab_ok (fun K hk => hk)) ?_
  refine reg_nil ?_
  refine seq_n ?_
  refine wc_seq ?_
  refine wc_block ?_
  refine wc_seq_cut 3 (.bool (f.used && (decide (f.block < 0) || decide (f.block ≥ 4096)))) _ rfl ?_ ?_
  · refine reg_quiet rfl (step_C tab_ok (fun K hk => hk)) ?_
    refine reg_quiet rfl (load_box tab_ok rfl rfl ⟨_, rfl, rfl⟩ rfl) ?_
    refine reg_quiet rfl (step_C tab_ok (fun K hk => hk)) ?_
    refine reg_split rfl rfl rfl (fun hb => ?_) (fun hb => ?_)
    refine reg_on rfl rfl (by assumption) ?_
    refine reg_quiet rfl (step_C tab_ok (fun K hk => hk)) ?_
    refine reg_on rfl rfl (by assumption) ?_
    refine reg_quiet rfl (load_box tab_ok rfl rfl ⟨_, rfl, rfl⟩ rfl) ?_
    refine reg_on rfl rfl (by assumption) ?_
    refine reg_quiet rfl (step_C tab_ok (fun K hk => hk)) ?_
    refine reg_on rfl rfl (by assumption) ?_
    refine reg_quiet rfl (step_C tab_ok (fun K hk => hk)) ?_
    refine reg_split rfl rfl rfl (fun hb => ?_) (fun hb => ?_)
    refine reg_on rfl rfl (by assumption) ?_
    refine reg_quiet rfl (step_C tab_ok (fun K hk => hk)) ?_
    refine reg_on rfl rfl (by assumption) ?_
    refine reg_quiet rfl (load_box tab_ok rfl rfl ⟨_, rfl, rfl⟩ rfl) ?_
    refine reg_on rfl rfl (by assumption) ?_
    refine reg_quiet rfl (step_C tab_ok (fun K hk => hk)) ?_
    refine reg_on rfl rfl (by assumption) ?_
    refine reg_quiet rfl (pick_F tab_ok rfl (by assumption) rfl) ?_
    refine reg_quiet rfl (pick_T tab_ok rfl (by assumption) rfl) ?_
    refine reg_quiet rfl (step_C tab_ok (fun K hk => hk)) ?_
    rotate_left
    refine reg_skip rfl rfl (by assumption) rfl rfl ?_
    refine reg_skip rfl rfl (by assumption) rfl rfl ?_
    refine reg_skip rfl rfl (by assumption) rfl rfl ?_
    refine reg_on rfl rfl (by assumption) ?_
    refine reg_quiet rfl (pick_T tab_ok rfl (by assumption) rfl) ?_
    refine reg_quiet rfl (pick_T tab_ok rfl (by assumption) rfl) ?_
    refine reg_quiet rfl (step_C tab_ok (fun K hk => hk)) ?_
    rotate_left
    refine reg_skip rfl rfl (by assumption) rfl rfl ?_
    refine reg_skip rfl rfl (by assumption) rfl rfl ?_
    refine reg_skip rfl rfl (by assumption) rfl rfl ?_
    refine reg_skip rfl rfl (by assumption) rfl rfl ?_
    refine reg_skipU rfl rfl rfl rfl ?_
    refine reg_skipU rfl rfl rfl rfl ?_
    refine reg_skipU rfl rfl rfl rfl ?_
    refine reg_skip rfl rfl (by assumption) rfl rfl ?_
    refine reg_quiet rfl (pick_F tab_ok rfl (by assumption) rfl) ?_
    refine reg_quiet rfl (step_C tab_ok (fun K hk => hk)) ?_
    rotate_left
    all_goals refine reg_cut 13 rfl rfl rfl rfl rfl rfl rfl rfl rfl (AVLe.of_eq ?_)
    all_goals (first | rfl | (simp_all; done) | (simp_all; omega))
  refine wc_cond rfl (fun hb => ?_) (fun hb => ?_)
  refine wc_seq ?_
  refine wc_region ?_
  refine reg_quiet rfl (step_C tab_ok (fun K hk => hk)) ?_
  refine reg_nil ?_
  refine seq_n ?_
  refine wc_ret ?_
  refine blk_r ?_
  refine seq_r ?_
  rotate_left
  refine wc_seq_cut 16 (.bool (!f.used && !decide (f = zeroFrame))) _ rfl ?_ ?_
  · refine reg_quiet rfl (step_C tab_ok (fun K hk => hk)) ?_
    refine reg_quiet rfl (load_box tab_ok rfl rfl ⟨_, rfl, rfl⟩ rfl) ?_
    refine reg_quiet rfl (step_C tab_ok (fun K hk => hk)) ?_
    refine reg_quiet rfl (step_C tab_ok (fun K hk => hk)) ?_
    refine reg_split rfl rfl rfl (fun hb => ?_) (fun hb => ?_)
    refine reg_on rfl rfl (by assumption) ?_
    refine reg_quiet rfl (load_box tab_ok rfl rfl rfl rfl) ?_
    refine reg_on rfl rfl (by assumption) ?_
    refine reg_quiet rfl (build_struct tab_ok rfl rfl rfl rfl) ?_
    refine reg_on rfl rfl (by assumption) ?_
    refine reg_quiet rfl (neq_data rfl rfl rfl rfl (by kernel_rfl) (by decide) (frame_eq _ zeroFrame)) ?_
    refine reg_quiet rfl (pick_T tab_ok rfl (by assumption) rfl) ?_
    refine reg_quiet rfl (step_C tab_ok (fun K hk => hk)) ?_
    rotate_left
    refine reg_skip rfl rfl (by assumption) rfl rfl ?_
    refine reg_skip rfl rfl (by assumption) rfl rfl ?_
    refine reg_skip rfl rfl (by assumption) rfl rfl ?_
    refine reg_quiet rfl (pick_F tab_ok rfl (by assumption) rfl) ?_
    refine reg_quiet rfl (step_C tab_ok (fun K hk => hk)) ?_
    rotate_left
    all_goals refine reg_cut 9 rfl rfl rfl rfl rfl rfl rfl rfl rfl (AVLe.of_eq ?_)
    all_goals (first | rfl | (simp_all; done) | (simp_all; omega))
  refine wc_cond rfl (fun hb => ?_) (fun hb => ?_)
  refine wc_seq ?_
  refine wc_region ?_
  refine reg_quiet rfl (step_C tab_ok (fun K hk => hk)) ?_
  refine reg_nil ?_
  refine seq_n ?_
  refine wc_ret ?_
  refine blk_r ?_
  refine seq_r ?_
  rotate_left
  refine wc_seq_cut 25 (.bool ((f.busy && !f.dirty) || (!f.dirty && !decide (f.nonce = zeroNonce)))) _ rfl ?_ ?_
  · refine reg_quiet rfl (step_C tab_ok (fun K hk => hk)) ?_
    refine reg_quiet rfl (load_box tab_ok rfl rfl ⟨_, rfl, rfl⟩ rfl) ?_
    refine reg_quiet rfl (step_C tab_ok (fun K hk => hk)) ?_
    refine reg_split rfl rfl rfl (fun hb => ?_) (fun hb => ?_)
    refine reg_on rfl rfl (by assumption) ?_
    refine reg_quiet rfl (step_C tab_ok (fun K hk => hk)) ?_
    refine reg_on rfl rfl (by assumption) ?_
    refine reg_quiet rfl (load_box tab_ok rfl rfl ⟨_, rfl, rfl⟩ rfl) ?_
    refine reg_on rfl rfl (by assumption) ?_
    refine reg_quiet rfl (step_C tab_ok (fun K hk => hk)) ?_
    refine reg_quiet rfl (pick_T tab_ok rfl (by assumption) rfl) ?_
    refine reg_quiet rfl (step_C tab_ok (fun K hk => hk)) ?_
    refine reg_split rfl rfl rfl (fun hb => ?_) (fun hb => ?_)
    refine reg_on rfl rfl (by assumption) ?_
    refine reg_quiet rfl (step_C tab_ok (fun K hk => hk)) ?_
    refine reg_on rfl rfl (by assumption) ?_
    refine reg_quiet rfl (load_box tab_ok rfl rfl ⟨_, rfl, rfl⟩ rfl) ?_
    refine reg_on rfl rfl (by assumption) ?_
    refine reg_quiet rfl (step_C tab_ok (fun K hk => hk)) ?_
    refine reg_on rfl rfl (by assumption) ?_
    refine reg_quiet rfl (step_C tab_ok (fun K hk => hk)) ?_
    refine reg_skip rfl rfl (by assumption) rfl rfl ?_
    refine reg_skip rfl rfl (by assumption) rfl rfl ?_
    refine reg_skip rfl rfl (by assumption) rfl rfl ?_
    refine reg_skip rfl rfl (by assumption) rfl rfl ?_
    refine reg_on rfl rfl (by assumption) ?_
    refine reg_quiet rfl (pick_F tab_ok rfl (by assumption) rfl) ?_
    refine reg_quiet rfl (pick_F tab_ok rfl (by assumption) rfl) ?_
    refine reg_quiet rfl (step_C tab_ok (fun K hk => hk)) ?_
    rotate_left
    refine reg_skip rfl rfl (by assumption) rfl rfl ?_
    refine reg_skip rfl rfl (by assumption) rfl rfl ?_
    refine reg_skip rfl rfl (by assumption) rfl rfl ?_
    refine reg_skip rfl rfl (by assumption) rfl rfl ?_
    refine reg_skipU rfl rfl rfl rfl ?_
    refine reg_skipU rfl rfl rfl rfl ?_
    refine reg_skipU rfl rfl rfl rfl ?_
    refine reg_skipU rfl rfl rfl rfl ?_
    refine reg_skip rfl rfl (by assumption) rfl rfl ?_
    refine reg_quiet rfl (pick_T tab_ok rfl (by assumption) rfl) ?_
    refine reg_quiet rfl (step_C tab_ok (fun K hk => hk)) ?_
    rotate_left
    refine reg_skip rfl rfl (by assumption) rfl rfl ?_
    refine reg_skip rfl rfl (by assumption) rfl rfl ?_
    refine reg_skip rfl rfl (by assumption) rfl rfl ?_
    refine reg_quiet rfl (pick_F tab_ok rfl (by assumption) rfl) ?_
    refine reg_quiet rfl (step_C tab_ok (fun K hk => hk)) ?_
    refine reg_on rfl rfl rfl ?_
    refine reg_quiet rfl (step_C tab_ok (fun K hk => hk)) ?_
    refine reg_on rfl rfl rfl ?_
    refine reg_quiet rfl (load_box tab_ok rfl rfl ⟨_, rfl, rfl⟩ rfl) ?_
    refine reg_on rfl rfl rfl ?_
    refine reg_quiet rfl (step_C tab_ok (fun K hk => hk)) ?_
    refine reg_on rfl rfl rfl ?_
    refine reg_quiet rfl (step_C tab_ok (fun K hk => hk)) ?_
    refine reg_split rfl rfl rfl (fun hb => ?_) (fun hb => ?_)
    refine reg_on rfl rfl (by assumption) ?_
    refine reg_quiet rfl (step_C tab_ok (fun K hk => hk)) ?_
    refine reg_on rfl rfl (by assumption) ?_
    refine reg_quiet rfl (load_box tab_ok rfl rfl ⟨_, rfl, rfl⟩ rfl) ?_
    refine reg_on rfl rfl (by assumption) ?_
    refine reg_quiet rfl (build_struct tab_ok rfl rfl rfl rfl) ?_
    refine reg_on rfl rfl (by assumption) ?_
    refine reg_quiet rfl (neq_data rfl rfl rfl rfl (by kernel_rfl) (by decide) (nonce_eq _ zeroNonce)) ?_
    refine reg_on rfl rfl rfl ?_
    refine reg_quiet rfl (pick_T tab_ok rfl (by assumption) rfl) ?_
    refine reg_quiet rfl (pick_F tab_ok rfl rfl rfl) ?_
    refine reg_quiet rfl (step_C tab_ok (fun K hk => hk)) ?_
    rotate_left
    refine reg_skip rfl rfl (by assumption) rfl rfl ?_
    refine reg_skip rfl rfl (by assumption) rfl rfl ?_
    refine reg_skip rfl rfl (by assumption) rfl rfl ?_
    refine reg_skip rfl rfl (by assumption) rfl rfl ?_
    refine reg_on rfl rfl rfl ?_
    refine reg_quiet rfl (pick_F tab_ok rfl (by assumption) rfl) ?_
    refine reg_quiet rfl (pick_F tab_ok rfl rfl rfl) ?_
    refine reg_quiet rfl (step_C tab_ok (fun K hk => hk)) ?_
    rotate_left
    all_goals refine reg_cut 19 rfl rfl rfl rfl rfl rfl rfl rfl rfl (AVLe.of_eq ?_)
    all_goals (first | rfl | (simp_all; done) | (simp_all; omega))
  refine wc_cond rfl (fun hb => ?_) (fun hb => ?_)
  refine wc_seq ?_
  refine wc_region ?_
  refine reg_quiet rfl (step_C tab_ok (fun K hk => hk)) ?_
  refine reg_nil ?_
  refine seq_n ?_
  refine wc_ret ?_
  refine blk_r ?_
  refine seq_r ?_
  rotate_left
  refine wc_seq_cut 44 (.bool (f.loading && (f.dirty || f.ref || !decide (f.data = zeroBlock)))) _ rfl ?_ ?_
  · refine reg_quiet rfl (step_C tab_ok (fun K hk => hk)) ?_
    refine reg_quiet rfl (load_box tab_ok rfl rfl ⟨_, rfl, rfl⟩ rfl) ?_
    refine reg_quiet rfl (step_C tab_ok (fun K hk => hk)) ?_
    refine reg_split rfl rfl rfl (fun hb => ?_) (fun hb => ?_)
    refine reg_on rfl rfl (by assumption) ?_
    refine reg_quiet rfl (step_C tab_ok (fun K hk => hk)) ?_
    refine reg_on rfl rfl (by assumption) ?_
    refine reg_quiet rfl (load_box tab_ok rfl rfl ⟨_, rfl, rfl⟩ rfl) ?_
    refine reg_on rfl rfl (by assumption) ?_
    refine reg_quiet rfl (step_C tab_ok (fun K hk => hk)) ?_
    refine reg_split rfl rfl rfl (fun hb => ?_) (fun hb => ?_)
    refine reg_on rfl rfl (by assumption) ?_
    refine reg_quiet rfl (step_C tab_ok (fun K hk => hk)) ?_
    refine reg_on rfl rfl (by assumption) ?_
    refine reg_quiet rfl (load_box tab_ok rfl rfl ⟨_, rfl, rfl⟩ rfl) ?_
    refine reg_on rfl rfl (by assumption) ?_
    refine reg_quiet rfl (pick_F tab_ok rfl (by assumption) rfl) ?_
    refine reg_on rfl rfl (by assumption) ?_
    refine reg_quiet rfl (step_C tab_ok (fun K hk => hk)) ?_
    refine reg_split rfl rfl rfl (fun hb => ?_) (fun hb => ?_)
    refine reg_on rfl rfl (by assumption) ?_
    refine reg_quiet rfl (step_C tab_ok (fun K hk => hk)) ?_
    refine reg_on rfl rfl (by assumption) ?_
    refine reg_quiet rfl (load_box tab_ok rfl rfl ⟨_, rfl, rfl⟩ rfl) ?_
    refine reg_on rfl rfl (by assumption) ?_
    refine reg_quiet rfl (build_array tab_ok rfl rfl rfl) ?_
    refine reg_on rfl rfl (by assumption) ?_
    refine reg_quiet rfl (neq_data rfl rfl rfl rfl (by kernel_rfl) (by decide) (block_eq _ zeroBlock)) ?_
    refine reg_on rfl rfl (by assumption) ?_
    refine reg_quiet rfl (pick_F tab_ok rfl (by assumption) rfl) ?_
    refine reg_quiet rfl (pick_T tab_ok rfl (by assumption) rfl) ?_
    refine reg_quiet rfl (step_C tab_ok (fun K hk => hk)) ?_
    rotate_left
    refine reg_skip rfl rfl (by assumption) rfl rfl ?_
    refine reg_skip rfl rfl (by assumption) rfl rfl ?_
    refine reg_skip rfl rfl (by assumption) rfl rfl ?_
    refine reg_skip rfl rfl (by assumption) rfl rfl ?_
    refine reg_on rfl rfl (by assumption) ?_
    refine reg_quiet rfl (pick_T tab_ok rfl (by assumption) rfl) ?_
    refine reg_quiet rfl (pick_T tab_ok rfl (by assumption) rfl) ?_
    refine reg_quiet rfl (step_C tab_ok (fun K hk => hk)) ?_
    rotate_left
    refine reg_skip rfl rfl (by assumption) rfl rfl ?_
    refine reg_skip rfl rfl (by assumption) rfl rfl ?_
    refine reg_on rfl rfl (by assumption) ?_
    refine reg_quiet rfl (pick_T tab_ok rfl (by assumption) rfl) ?_
    refine reg_on rfl rfl (by assumption) ?_
    refine reg_quiet rfl (step_C tab_ok (fun K hk => hk)) ?_
    refine reg_skip rfl rfl rfl rfl rfl ?_
    refine reg_skip rfl rfl rfl rfl rfl ?_
    refine reg_skip rfl rfl rfl rfl rfl ?_
    refine reg_skip rfl rfl rfl rfl rfl ?_
    refine reg_on rfl rfl (by assumption) ?_
    refine reg_quiet rfl (pick_T tab_ok rfl rfl rfl) ?_
    refine reg_quiet rfl (pick_T tab_ok rfl (by assumption) rfl) ?_
    refine reg_quiet rfl (step_C tab_ok (fun K hk => hk)) ?_
    rotate_left
    refine reg_skip rfl rfl (by assumption) rfl rfl ?_
    refine reg_skip rfl rfl (by assumption) rfl rfl ?_
    refine reg_skip rfl rfl (by assumption) rfl rfl ?_
    refine reg_skipU rfl rfl rfl rfl ?_
    refine reg_skipU rfl rfl rfl rfl ?_
    refine reg_skip rfl rfl (by assumption) rfl rfl ?_
    refine reg_skip rfl rfl (by assumption) rfl rfl ?_
    refine reg_skipU rfl rfl rfl rfl ?_
    refine reg_skipU rfl rfl rfl rfl ?_
    refine reg_skipU rfl rfl rfl rfl ?_
    refine reg_skipU rfl rfl rfl rfl ?_
    refine reg_skip rfl rfl (by assumption) rfl rfl ?_
    refine reg_quiet rfl (pick_F tab_ok rfl (by assumption) rfl) ?_
    refine reg_quiet rfl (step_C tab_ok (fun K hk => hk)) ?_
    rotate_left
    all_goals refine reg_cut 17 rfl rfl rfl rfl rfl rfl rfl rfl rfl (AVLe.of_eq ?_)
    all_goals (first | rfl | (simp_all; done) | (simp_all; omega))
  refine wc_cond rfl (fun hb => ?_) (fun hb => ?_)
  refine wc_seq ?_
  refine wc_region ?_
  refine reg_quiet rfl (step_C tab_ok (fun K hk => hk)) ?_
  refine reg_nil ?_
  refine seq_n ?_
  refine wc_ret ?_
  refine blk_r ?_
  refine seq_r ?_
  rotate_left
  refine wc_skip ?_
  refine blk_n ?_
  refine seq_n ?_
  refine wc_seq ?_
  refine wc_region ?_
  refine reg_quiet rfl (step_C tab_ok (fun K hk => hk)) ?_
  refine reg_nil ?_
  refine seq_n ?_
  refine wc_ret ?_
  rotate_left
  all_goals refine ⟨trivial, [], .of rfl rfl rfl rfl rfl ⟨⟨_, rfl, AVLe.of_eq ?_⟩, rfl, trivial⟩ trivial⟩
  all_goals (simp_all only [chk, retOne, AV.ren]; rfl)

theorem refcheck_is (f : Frame) : FnIs Try.prog 25 [.d (encFrame f)] [] (.int .i64 (chk f)) [] := by
  refine fnIs_of tab_ok Try.func25 rfl rfl rfl ?_
  refine wc_seq ?_
  refine wc_region ?_
  refine reg_new (step_C tab_ok (fun K hk => hk)) rfl ?_
  refine reg_quiet rfl (step_C tab_ok (fun K hk => hk)) ?_
  refine reg_nil ?_
  refine seq_n ?_
  refine wc_seq ?_
  refine wc_region ?_
  refine reg_quiet rfl (build_struct tab_ok rfl rfl rfl rfl) ?_
  refine reg_new (step_C tab_ok (fun K hk => hk)) rfl ?_
  refine reg_store (store_row tab_ok rfl rfl rfl ⟨_, ⟨rfl, rfl, rfl⟩, rfl⟩ rfl) ?_
  refine reg_nil ?_
  refine seq_n ?_
  refine wc_seq ?_
  refine wc_seq ?_
  refine wc_region ?_
  refine reg_quiet rfl (step_C tab_ok (fun K hk => hk)) ?_
  refine reg_quiet rfl (load_box tab_ok rfl rfl ⟨_, rfl, rfl⟩ rfl) ?_
  refine reg_quiet rfl (step_C tab_ok (fun K hk => hk)) ?_
  refine reg_nil ?_
  refine seq_n ?_
  refine wc_cond rfl (fun hb => ?_) (fun hb => ?_)
  refine wc_seq ?_
  refine wc_seq ?_
  refine wc_region ?_
  refine reg_quiet rfl (load_box tab_ok rfl rfl rfl rfl) ?_
  refine reg_quiet rfl (load_box tab_ok rfl rfl rfl rfl) ?_
  refine reg_quiet rfl (eql_data rfl rfl rfl rfl (by kernel_rfl) (by decide) (frame_eq _ zeroFrame)) ?_
  refine reg_nil ?_
  refine seq_n ?_
  refine wc_cond rfl (fun hb => ?_) (fun hb => ?_)
  refine wc_seq ?_
  refine wc_region ?_
  refine reg_quiet rfl (step_C tab_ok (fun K hk => hk)) ?_
  refine reg_nil ?_
  refine seq_n ?_
  refine wc_ret ?_
  refine seq_r ?_
  refine seq_r ?_
  rotate_left
  refine wc_skip ?_
  refine seq_n ?_
  refine wc_seq ?_
  refine wc_region ?_
  refine reg_quiet rfl (step_C tab_ok (fun K hk => hk)) ?_
  refine reg_nil ?_
  refine seq_n ?_
  refine wc_ret ?_
  refine seq_r ?_
  rotate_left
  refine wc_skip ?_
  refine seq_n ?_
  refine wc_seq ?_
  refine wc_seq_cut 18 (.bool (decide (f.block < 0) || decide (f.block > 4095))) _ rfl ?_ ?_
  · refine reg_quiet rfl (step_C tab_ok (fun K hk => hk)) ?_
    refine reg_quiet rfl (load_box tab_ok rfl rfl ⟨_, rfl, rfl⟩ rfl) ?_
    refine reg_quiet rfl (step_C tab_ok (fun K hk => hk)) ?_
    refine reg_quiet rfl (step_C tab_ok (fun K hk => hk)) ?_
    refine reg_split rfl rfl rfl (fun hb => ?_) (fun hb => ?_)
    refine reg_on rfl rfl (by assumption) ?_
    refine reg_quiet rfl (step_C tab_ok (fun K hk => hk)) ?_
    refine reg_on rfl rfl (by assumption) ?_
    refine reg_quiet rfl (load_box tab_ok rfl rfl ⟨_, rfl, rfl⟩ rfl) ?_
    refine reg_on rfl rfl (by assumption) ?_
    refine reg_quiet rfl (step_C tab_ok (fun K hk => hk)) ?_
    refine reg_quiet rfl (pick_F tab_ok rfl (by assumption) rfl) ?_
    rotate_left
    refine reg_skip rfl rfl (by assumption) rfl rfl ?_
    refine reg_skip rfl rfl (by assumption) rfl rfl ?_
    refine reg_skip rfl rfl (by assumption) rfl rfl ?_
    refine reg_quiet rfl (pick_T tab_ok rfl (by assumption) rfl) ?_
    rotate_left
    all_goals refine reg_cut 8 rfl rfl rfl rfl rfl rfl rfl rfl rfl (AVLe.of_eq ?_)
    all_goals (first | rfl | (simp_all; done) | (simp_all; omega))
  refine wc_cond rfl (fun hb => ?_) (fun hb => ?_)
  refine wc_seq ?_
  refine wc_region ?_
  refine reg_quiet rfl (step_C tab_ok (fun K hk => hk)) ?_
  refine reg_nil ?_
  refine seq_n ?_
  refine wc_ret ?_
  refine seq_r ?_
  rotate_left
  refine wc_skip ?_
  refine seq_n ?_
  refine wc_seq ?_
  refine wc_seq_cut 25 (.bool (f.busy && !f.dirty)) _ rfl ?_ ?_
  · refine reg_quiet rfl (step_C tab_ok (fun K hk => hk)) ?_
    refine reg_quiet rfl (load_box tab_ok rfl rfl ⟨_, rfl, rfl⟩ rfl) ?_
    refine reg_quiet rfl (step_C tab_ok (fun K hk => hk)) ?_
    refine reg_split rfl rfl rfl (fun hb => ?_) (fun hb => ?_)
    refine reg_on rfl rfl (by assumption) ?_
    refine reg_quiet rfl (step_C tab_ok (fun K hk => hk)) ?_
    refine reg_on rfl rfl (by assumption) ?_
    refine reg_quiet rfl (load_box tab_ok rfl rfl ⟨_, rfl, rfl⟩ rfl) ?_
    refine reg_on rfl rfl (by assumption) ?_
    refine reg_quiet rfl (step_C tab_ok (fun K hk => hk)) ?_
    refine reg_quiet rfl (pick_T tab_ok rfl (by assumption) rfl) ?_
    rotate_left
    refine reg_skip rfl rfl (by assumption) rfl rfl ?_
    refine reg_skip rfl rfl (by assumption) rfl rfl ?_
    refine reg_skip rfl rfl (by assumption) rfl rfl ?_
    refine reg_quiet rfl (pick_F tab_ok rfl (by assumption) rfl) ?_
    rotate_left
    all_goals refine reg_cut 7 rfl rfl rfl rfl rfl rfl rfl rfl rfl (AVLe.of_eq ?_)
    all_goals (first | rfl | (simp_all; done) | (simp_all; omega))
  refine wc_cond rfl (fun hb => ?_) (fun hb => ?_)
  refine wc_seq ?_
  refine wc_region ?_
  refine reg_quiet rfl (step_C tab_ok (fun K hk => hk)) ?_
  refine reg_nil ?_
  refine seq_n ?_
  refine wc_ret ?_
  refine seq_r ?_
  rotate_left
  refine wc_skip ?_
  refine seq_n ?_
  refine wc_seq ?_
  refine wc_seq_cut 34 (.bool (!decide (f.nonce = zeroNonce) && !f.dirty)) _ rfl ?_ ?_
  · refine reg_quiet rfl (step_C tab_ok (fun K hk => hk)) ?_
    refine reg_quiet rfl (load_box tab_ok rfl rfl ⟨_, rfl, rfl⟩ rfl) ?_
    refine reg_quiet rfl (build_struct tab_ok rfl rfl rfl rfl) ?_
    refine reg_quiet rfl (neq_data rfl rfl rfl rfl (by kernel_rfl) (by decide) (nonce_eq _ zeroNonce)) ?_
    refine reg_quiet rfl (step_C tab_ok (fun K hk => hk)) ?_
    refine reg_split rfl rfl rfl (fun hb => ?_) (fun hb => ?_)
    refine reg_on rfl rfl (by assumption) ?_
    refine reg_quiet rfl (step_C tab_ok (fun K hk => hk)) ?_
    refine reg_on rfl rfl (by assumption) ?_
    refine reg_quiet rfl (load_box tab_ok rfl rfl ⟨_, rfl, rfl⟩ rfl) ?_
    refine reg_on rfl rfl (by assumption) ?_
    refine reg_quiet rfl (step_C tab_ok (fun K hk => hk)) ?_
    refine reg_quiet rfl (pick_T tab_ok rfl (by assumption) rfl) ?_
    rotate_left
    refine reg_skip rfl rfl (by assumption) rfl rfl ?_
    refine reg_skip rfl rfl (by assumption) rfl rfl ?_
    refine reg_skip rfl rfl (by assumption) rfl rfl ?_
    refine reg_quiet rfl (pick_F tab_ok rfl (by assumption) rfl) ?_
    rotate_left
    all_goals refine reg_cut 9 rfl rfl rfl rfl rfl rfl rfl rfl rfl (AVLe.of_eq ?_)
    all_goals (first | rfl | (simp_all; done) | (simp_all; omega))
  refine wc_cond rfl (fun hb => ?_) (fun hb => ?_)
  refine wc_seq ?_
  refine wc_region ?_
  refine reg_quiet rfl (step_C tab_ok (fun K hk => hk)) ?_
  refine reg_nil ?_
  refine seq_n ?_
  refine wc_ret ?_
  refine seq_r ?_
  rotate_left
  refine wc_skip ?_
  refine seq_n ?_
  refine wc_seq ?_
  refine wc_seq_cut 50 (.bool (f.loading && (f.dirty || f.ref || !decide (f.data = zeroBlock)))) _ rfl ?_ ?_
  · refine reg_quiet rfl (step_C tab_ok (fun K hk => hk)) ?_
    refine reg_quiet rfl (load_box tab_ok rfl rfl ⟨_, rfl, rfl⟩ rfl) ?_
    refine reg_quiet rfl (step_C tab_ok (fun K hk => hk)) ?_
    refine reg_split rfl rfl rfl (fun hb => ?_) (fun hb => ?_)
    refine reg_on rfl rfl (by assumption) ?_
    refine reg_quiet rfl (step_C tab_ok (fun K hk => hk)) ?_
    refine reg_on rfl rfl (by assumption) ?_
    refine reg_quiet rfl (load_box tab_ok rfl rfl ⟨_, rfl, rfl⟩ rfl) ?_
    refine reg_on rfl rfl (by assumption) ?_
    refine reg_quiet rfl (step_C tab_ok (fun K hk => hk)) ?_
    refine reg_split rfl rfl rfl (fun hb => ?_) (fun hb => ?_)
    refine reg_on rfl rfl (by assumption) ?_
    refine reg_quiet rfl (step_C tab_ok (fun K hk => hk)) ?_
    refine reg_on rfl rfl (by assumption) ?_
    refine reg_quiet rfl (load_box tab_ok rfl rfl ⟨_, rfl, rfl⟩ rfl) ?_
    refine reg_on rfl rfl (by assumption) ?_
    refine reg_quiet rfl (pick_F tab_ok rfl (by assumption) rfl) ?_
    refine reg_on rfl rfl (by assumption) ?_
    refine reg_quiet rfl (step_C tab_ok (fun K hk => hk)) ?_
    refine reg_split rfl rfl rfl (fun hb => ?_) (fun hb => ?_)
    refine reg_on rfl rfl (by assumption) ?_
    refine reg_quiet rfl (step_C tab_ok (fun K hk => hk)) ?_
    refine reg_on rfl rfl (by assumption) ?_
    refine reg_quiet rfl (load_box tab_ok rfl rfl ⟨_, rfl, rfl⟩ rfl) ?_
    refine reg_on rfl rfl (by assumption) ?_
    refine reg_quiet rfl (build_array tab_ok rfl rfl rfl) ?_
    refine reg_on rfl rfl (by assumption) ?_
    refine reg_quiet rfl (neq_data rfl rfl rfl rfl (by kernel_rfl) (by decide) (block_eq _ zeroBlock)) ?_
    refine reg_on rfl rfl (by assumption) ?_
    refine reg_quiet rfl (pick_F tab_ok rfl (by assumption) rfl) ?_
    refine reg_quiet rfl (pick_T tab_ok rfl (by assumption) rfl) ?_
    rotate_left
    refine reg_skip rfl rfl (by assumption) rfl rfl ?_
    refine reg_skip rfl rfl (by assumption) rfl rfl ?_
    refine reg_skip rfl rfl (by assumption) rfl rfl ?_
    refine reg_skip rfl rfl (by assumption) rfl rfl ?_
    refine reg_on rfl rfl (by assumption) ?_
    refine reg_quiet rfl (pick_T tab_ok rfl (by assumption) rfl) ?_
    refine reg_quiet rfl (pick_T tab_ok rfl (by assumption) rfl) ?_
    rotate_left
    refine reg_skip rfl rfl (by assumption) rfl rfl ?_
    refine reg_skip rfl rfl (by assumption) rfl rfl ?_
    refine reg_on rfl rfl (by assumption) ?_
    refine reg_quiet rfl (pick_T tab_ok rfl (by assumption) rfl) ?_
    refine reg_on rfl rfl (by assumption) ?_
    refine reg_quiet rfl (step_C tab_ok (fun K hk => hk)) ?_
    refine reg_skip rfl rfl rfl rfl rfl ?_
    refine reg_skip rfl rfl rfl rfl rfl ?_
    refine reg_skip rfl rfl rfl rfl rfl ?_
    refine reg_skip rfl rfl rfl rfl rfl ?_
    refine reg_on rfl rfl (by assumption) ?_
    refine reg_quiet rfl (pick_T tab_ok rfl rfl rfl) ?_
    refine reg_quiet rfl (pick_T tab_ok rfl (by assumption) rfl) ?_
    rotate_left
    refine reg_skip rfl rfl (by assumption) rfl rfl ?_
    refine reg_skip rfl rfl (by assumption) rfl rfl ?_
    refine reg_skip rfl rfl (by assumption) rfl rfl ?_
    refine reg_skipU rfl rfl rfl rfl ?_
    refine reg_skipU rfl rfl rfl rfl ?_
    refine reg_skip rfl rfl (by assumption) rfl rfl ?_
    refine reg_skip rfl rfl (by assumption) rfl rfl ?_
    refine reg_skipU rfl rfl rfl rfl ?_
    refine reg_skipU rfl rfl rfl rfl ?_
    refine reg_skipU rfl rfl rfl rfl ?_
    refine reg_skipU rfl rfl rfl rfl ?_
    refine reg_skip rfl rfl (by assumption) rfl rfl ?_
    refine reg_quiet rfl (pick_F tab_ok rfl (by assumption) rfl) ?_
    rotate_left
    all_goals refine reg_cut 16 rfl rfl rfl rfl rfl rfl rfl rfl rfl (AVLe.of_eq ?_)
    all_goals (first | rfl | (simp_all; done) | (simp_all; omega))
  refine wc_cond rfl (fun hb => ?_) (fun hb => ?_)
  refine wc_seq ?_
  refine wc_region ?_
  refine reg_quiet rfl (step_C tab_ok (fun K hk => hk)) ?_
  refine reg_nil ?_
  refine seq_n ?_
  refine wc_ret ?_
  refine seq_r ?_
  rotate_left
  refine wc_skip ?_
  refine seq_n ?_
  refine wc_seq ?_
  refine wc_region ?_
  refine reg_quiet rfl (step_C tab_ok (fun K hk => hk)) ?_
  refine reg_nil ?_
  refine seq_n ?_
  refine wc_ret ?_
  rotate_left
  all_goals refine ⟨trivial, [], .of rfl rfl rfl rfl rfl ⟨⟨_, rfl, AVLe.of_eq ?_⟩, rfl, trivial⟩ trivial⟩
  all_goals (simp_all [chk, retOne, AV.ren, Int.not_lt]; try (first | rfl | omega | ((repeat' split) <;> (first | rfl | omega | (simp_all; done) | (rename_i h; rcases h with ⟨h1, h2⟩ | ⟨h1, h2⟩ <;> simp_all; done) | (rename_i h; obtain ⟨h1, (h2 | h2) | h2⟩ := h <;> simp_all; done)))))
end Go.Proofs.Ytmdfeekpehcieaa

/- One frame of a letter. -/
namespace Go.Proofs.Ytmdfeekpehcieaa
open Go.Eng
set_option maxHeartbeats 1000000
attribute [local irreducible] WC RegS RegD SeqQ BlkQ ScoQ RegK CutK Sat SatN FnIs LoopQ StepIs OpIs
def oneF (l b : Int) : Frame := if 0 < l then ⟨true, b, if l = 5 then zeroBlock else zeroBlock.set 0 (IntKind.u8.wrap (IntKind.u8.wrap b + 1)), decide (l = 3) || decide (l = 4), decide (l = 4), decide (l = 5), decide (l = 2), ⟨0, if (decide (l = 3) || decide (l = 4)) = true then 9 else 0⟩⟩ else zeroFrame
theorem one_is (letter block : Int) : FnIs Try.prog 23 [.d (i6 letter), .d (i6 block)] [] (.d (encFrame (oneF letter block))) [] := by
  refine fnIs_of tab_ok Try.func23 rfl rfl rfl ?_
  refine wc_seq ?_
  refine wc_region ?_
  refine reg_new (step_C tab_ok (fun K hk => hk)) rfl ?_
  refine reg_nil ?_
  refine seq_n ?_
  refine wc_seq ?_
  refine wc_region ?_
  refine reg_quiet rfl (step_C tab_ok (fun K hk => hk)) ?_
  refine reg_quiet rfl (step_C tab_ok (fun K hk => hk)) ?_
  refine reg_quiet rfl (build_struct tab_ok rfl rfl rfl rfl) ?_
  refine reg_new (step_C tab_ok (fun K hk => hk)) rfl ?_
  refine reg_store (store_row tab_ok rfl rfl rfl ⟨_, ⟨rfl, rfl, rfl⟩, rfl⟩ rfl) ?_
  refine reg_nil ?_
  refine seq_n ?_
  refine wc_seq ?_
  refine wc_seq ?_
  refine wc_region ?_
  refine reg_quiet rfl (step_C tab_ok (fun K hk => hk)) ?_
  refine reg_quiet rfl (load_box tab_ok rfl rfl ⟨_, rfl, rfl⟩ rfl) ?_
  refine reg_quiet rfl (step_C tab_ok (fun K hk => hk)) ?_
  refine reg_nil ?_
  refine seq_n ?_
  refine wc_cond rfl (fun hb => ?_) (fun hb => ?_)
  refine wc_seq ?_
  refine wc_region ?_
  refine reg_quiet rfl (load_box tab_ok rfl rfl rfl rfl) ?_
  refine reg_store (store_row tab_ok rfl rfl rfl ⟨_, ⟨rfl, rfl, rfl⟩, rfl⟩ rfl) ?_
  refine reg_nil ?_
  refine seq_n ?_
  refine wc_ret ?_
  refine seq_r ?_
  rotate_left
  refine wc_skip ?_
  refine seq_n ?_
  refine wc_seq ?_
  refine wc_region ?_
  refine reg_quiet rfl (step_C tab_ok (fun K hk => hk)) ?_
  refine reg_quiet rfl (step_C tab_ok (fun K hk => hk)) ?_
  refine reg_store (store_row tab_ok rfl rfl rfl ⟨_, ⟨_, ⟨_, ⟨rfl, rfl, rfl⟩, rfl⟩, rfl⟩, rfl⟩ rfl) ?_
  refine reg_nil ?_
  refine seq_n ?_
  refine wc_seq ?_
  refine wc_region ?_
  refine reg_quiet rfl (step_C tab_ok (fun K hk => hk)) ?_
  refine reg_quiet rfl (step_C tab_ok (fun K hk => hk)) ?_
  refine reg_quiet rfl (step_C tab_ok (fun K hk => hk)) ?_
  refine reg_store (store_row tab_ok rfl rfl rfl ⟨_, ⟨_, ⟨_, ⟨rfl, rfl, rfl⟩, rfl⟩, rfl⟩, rfl⟩ rfl) ?_
  refine reg_nil ?_
  refine seq_n ?_
  refine wc_seq ?_
  refine wc_region ?_
  refine reg_quiet rfl (step_C tab_ok (fun K hk => hk)) ?_
  refine reg_quiet rfl (step_C tab_ok (fun K hk => hk)) ?_
  refine reg_quiet rfl (step_C tab_ok (fun K hk => hk)) ?_
  refine reg_store (store_row tab_ok rfl rfl rfl ⟨_, ⟨_, ⟨_, ⟨rfl, rfl, rfl⟩, rfl⟩, rfl⟩, rfl⟩ rfl) ?_
  refine reg_nil ?_
  refine seq_n ?_
  refine wc_seq ?_
  refine wc_region ?_
  refine reg_quiet rfl (step_C tab_ok (fun K hk => hk)) ?_
  refine reg_quiet rfl (step_C tab_ok (fun K hk => hk)) ?_
  refine reg_quiet rfl (step_C tab_ok (fun K hk => hk)) ?_
  refine reg_split rfl rfl rfl (fun hb => ?_) (fun hb => ?_)
  refine reg_on rfl rfl (by assumption) ?_
  refine reg_quiet rfl (step_C tab_ok (fun K hk => hk)) ?_
  refine reg_on rfl rfl (by assumption) ?_
  refine reg_quiet rfl (step_C tab_ok (fun K hk => hk)) ?_
  refine reg_quiet rfl (pick_F tab_ok rfl (by assumption) rfl) ?_
  refine reg_quiet rfl (step_C tab_ok (fun K hk => hk)) ?_
  refine reg_store (store_row tab_ok rfl rfl rfl ⟨_, ⟨_, ⟨_, ⟨rfl, rfl, rfl⟩, rfl⟩, rfl⟩, rfl⟩ rfl) ?_
  refine reg_nil ?_
  refine seq_n ?_
  refine wc_seq ?_
  refine wc_region ?_
  refine reg_quiet rfl (step_C tab_ok (fun K hk => hk)) ?_
  refine reg_quiet rfl (step_C tab_ok (fun K hk => hk)) ?_
  refine reg_quiet rfl (step_C tab_ok (fun K hk => hk)) ?_
  refine reg_store (store_row tab_ok rfl rfl rfl ⟨_, ⟨_, ⟨_, ⟨rfl, rfl, rfl⟩, rfl⟩, rfl⟩, rfl⟩ rfl) ?_
  refine reg_nil ?_
  refine seq_n ?_
  refine wc_seq ?_
  refine wc_seq ?_
  refine wc_region ?_
  refine reg_quiet rfl (step_C tab_ok (fun K hk => hk)) ?_
  refine reg_quiet rfl (load_box tab_ok rfl rfl ⟨_, rfl, rfl⟩ rfl) ?_
  refine reg_quiet rfl (step_C tab_ok (fun K hk => hk)) ?_
  refine reg_nil ?_
  refine seq_n ?_
  refine wc_cond rfl (fun hb => ?_) (fun hb => ?_)
  refine wc_region ?_
  refine reg_quiet rfl (step_C tab_ok (fun K hk => hk)) ?_
  refine reg_quiet rfl (conv_int tab_ok rfl rfl rfl rfl) ?_
  refine reg_quiet rfl (add_int tab_ok rfl rfl rfl) ?_
  refine reg_quiet rfl (step_C tab_ok (fun K hk => hk)) ?_
  refine reg_quiet rfl (step_C tab_ok (fun K hk => ⟨by omega, by omega, hk⟩)) ?_
  refine reg_store (store_row tab_ok rfl rfl rfl ⟨_, ⟨_, ⟨_, ⟨rfl, _, _, rfl, ⟨rfl, rfl, rfl⟩, rfl⟩, rfl⟩, rfl⟩, rfl⟩ rfl) ?_
  refine reg_nil ?_
  refine seq_n ?_
  refine wc_seq ?_
  refine wc_seq ?_
  refine wc_region ?_
  refine reg_quiet rfl (step_C tab_ok (fun K hk => hk)) ?_
  refine reg_quiet rfl (load_box tab_ok rfl rfl ⟨_, rfl, rfl⟩ rfl) ?_
  refine reg_nil ?_
  refine seq_n ?_
  refine wc_cond rfl (fun hb => ?_) (fun hb => ?_)
  refine wc_region ?_
  refine reg_quiet rfl (step_C tab_ok (fun K hk => hk)) ?_
  refine reg_quiet rfl (step_C tab_ok (fun K hk => hk)) ?_
  refine reg_store (store_row tab_ok rfl rfl rfl ⟨_, ⟨_, ⟨_, ⟨_, ⟨rfl, rfl, rfl⟩, rfl⟩, rfl⟩, rfl⟩, rfl⟩ rfl) ?_
  refine reg_nil ?_
  refine seq_n ?_
  refine wc_seq ?_
  refine wc_region ?_
  refine reg_quiet rfl (load_box tab_ok rfl rfl rfl rfl) ?_
  refine reg_store (store_row tab_ok rfl rfl rfl ⟨_, ⟨rfl, rfl, rfl⟩, rfl⟩ rfl) ?_
  refine reg_nil ?_
  refine seq_n ?_
  refine wc_ret ?_
  rotate_left
  refine wc_skip ?_
  refine seq_n ?_
  refine wc_seq ?_
  refine wc_region ?_
  refine reg_quiet rfl (load_box tab_ok rfl rfl rfl rfl) ?_
  refine reg_store (store_row tab_ok rfl rfl rfl ⟨_, ⟨rfl, rfl, rfl⟩, rfl⟩ rfl) ?_
  refine reg_nil ?_
  refine seq_n ?_
  refine wc_ret ?_
  rotate_left
  refine wc_skip ?_
  refine seq_n ?_
  refine wc_seq ?_
  refine wc_seq ?_
  refine wc_region ?_
  refine reg_quiet rfl (step_C tab_ok (fun K hk => hk)) ?_
  refine reg_quiet rfl (load_box tab_ok rfl rfl ⟨_, rfl, rfl⟩ rfl) ?_
  refine reg_nil ?_
  refine seq_n ?_
  refine wc_cond rfl (fun hb => ?_) (fun hb => ?_)
  refine wc_region ?_
  refine reg_quiet rfl (step_C tab_ok (fun K hk => hk)) ?_
  refine reg_quiet rfl (step_C tab_ok (fun K hk => hk)) ?_
  refine reg_store (store_row tab_ok rfl rfl rfl ⟨_, ⟨_, ⟨_, ⟨_, ⟨rfl, rfl, rfl⟩, rfl⟩, rfl⟩, rfl⟩, rfl⟩ rfl) ?_
  refine reg_nil ?_
  refine seq_n ?_
  refine wc_seq ?_
  refine wc_region ?_
  refine reg_quiet rfl (load_box tab_ok rfl rfl rfl rfl) ?_
  refine reg_store (store_row tab_ok rfl rfl rfl ⟨_, ⟨rfl, rfl, rfl⟩, rfl⟩ rfl) ?_
  refine reg_nil ?_
  refine seq_n ?_
  refine wc_ret ?_
  rotate_left
  refine wc_skip ?_
  refine seq_n ?_
  refine wc_seq ?_
  refine wc_region ?_
  refine reg_quiet rfl (load_box tab_ok rfl rfl rfl rfl) ?_
  refine reg_store (store_row tab_ok rfl rfl rfl ⟨_, ⟨rfl, rfl, rfl⟩, rfl⟩ rfl) ?_
  refine reg_nil ?_
  refine seq_n ?_
  refine wc_ret ?_
  rotate_left
  refine reg_skip rfl rfl (by assumption) rfl rfl ?_
  refine reg_skip rfl rfl (by assumption) rfl rfl ?_
  refine reg_quiet rfl (pick_T tab_ok rfl (by assumption) rfl) ?_
  refine reg_quiet rfl (step_C tab_ok (fun K hk => hk)) ?_
  refine reg_store (store_row tab_ok rfl rfl rfl ⟨_, ⟨_, ⟨_, ⟨rfl, rfl, rfl⟩, rfl⟩, rfl⟩, rfl⟩ rfl) ?_
  refine reg_nil ?_
  refine seq_n ?_
  refine wc_seq ?_
  refine wc_region ?_
  refine reg_quiet rfl (step_C tab_ok (fun K hk => hk)) ?_
  refine reg_quiet rfl (step_C tab_ok (fun K hk => hk)) ?_
  refine reg_quiet rfl (step_C tab_ok (fun K hk => hk)) ?_
  refine reg_store (store_row tab_ok rfl rfl rfl ⟨_, ⟨_, ⟨_, ⟨rfl, rfl, rfl⟩, rfl⟩, rfl⟩, rfl⟩ rfl) ?_
  refine reg_nil ?_
  refine seq_n ?_
  refine wc_seq ?_
  refine wc_seq ?_
  refine wc_region ?_
  refine reg_quiet rfl (step_C tab_ok (fun K hk => hk)) ?_
  refine reg_quiet rfl (load_box tab_ok rfl rfl ⟨_, rfl, rfl⟩ rfl) ?_
  refine reg_quiet rfl (step_C tab_ok (fun K hk => hk)) ?_
  refine reg_nil ?_
  refine seq_n ?_
  refine wc_cond rfl (fun hb => ?_) (fun hb => ?_)
  refine wc_region ?_
  refine reg_quiet rfl (step_C tab_ok (fun K hk => hk)) ?_
  refine reg_quiet rfl (conv_int tab_ok rfl rfl rfl rfl) ?_
  refine reg_quiet rfl (add_int tab_ok rfl rfl rfl) ?_
  refine reg_quiet rfl (step_C tab_ok (fun K hk => hk)) ?_
  refine reg_quiet rfl (step_C tab_ok (fun K hk => ⟨by omega, by omega, hk⟩)) ?_
  refine reg_store (store_row tab_ok rfl rfl rfl ⟨_, ⟨_, ⟨_, ⟨rfl, _, _, rfl, ⟨rfl, rfl, rfl⟩, rfl⟩, rfl⟩, rfl⟩, rfl⟩ rfl) ?_
  refine reg_nil ?_
  refine seq_n ?_
  refine wc_seq ?_
  refine wc_seq ?_
  refine wc_region ?_
  refine reg_quiet rfl (step_C tab_ok (fun K hk => hk)) ?_
  refine reg_quiet rfl (load_box tab_ok rfl rfl ⟨_, rfl, rfl⟩ rfl) ?_
  refine reg_nil ?_
  refine seq_n ?_
  refine wc_true rfl rfl ?_
  refine wc_region ?_
  refine reg_quiet rfl (step_C tab_ok (fun K hk => hk)) ?_
  refine reg_quiet rfl (step_C tab_ok (fun K hk => hk)) ?_
  refine reg_store (store_row tab_ok rfl rfl rfl ⟨_, ⟨_, ⟨_, ⟨_, ⟨rfl, rfl, rfl⟩, rfl⟩, rfl⟩, rfl⟩, rfl⟩ rfl) ?_
  refine reg_nil ?_
  refine seq_n ?_
  refine wc_seq ?_
  refine wc_region ?_
  refine reg_quiet rfl (load_box tab_ok rfl rfl rfl rfl) ?_
  refine reg_store (store_row tab_ok rfl rfl rfl ⟨_, ⟨rfl, rfl, rfl⟩, rfl⟩ rfl) ?_
  refine reg_nil ?_
  refine seq_n ?_
  refine wc_ret ?_
  rotate_left
  refine wc_skip ?_
  refine seq_n ?_
  refine wc_seq ?_
  refine wc_seq ?_
  refine wc_region ?_
  refine reg_quiet rfl (step_C tab_ok (fun K hk => hk)) ?_
  refine reg_quiet rfl (load_box tab_ok rfl rfl ⟨_, rfl, rfl⟩ rfl) ?_
  refine reg_nil ?_
  refine seq_n ?_
  refine wc_true rfl rfl ?_
  refine wc_region ?_
  refine reg_quiet rfl (step_C tab_ok (fun K hk => hk)) ?_
  refine reg_quiet rfl (step_C tab_ok (fun K hk => hk)) ?_
  refine reg_store (store_row tab_ok rfl rfl rfl ⟨_, ⟨_, ⟨_, ⟨_, ⟨rfl, rfl, rfl⟩, rfl⟩, rfl⟩, rfl⟩, rfl⟩ rfl) ?_
  refine reg_nil ?_
  refine seq_n ?_
  refine wc_seq ?_
  refine wc_region ?_
  refine reg_quiet rfl (load_box tab_ok rfl rfl rfl rfl) ?_
  refine reg_store (store_row tab_ok rfl rfl rfl ⟨_, ⟨rfl, rfl, rfl⟩, rfl⟩ rfl) ?_
  refine reg_nil ?_
  refine seq_n ?_
  refine wc_ret ?_
  rotate_left
  all_goals refine ⟨trivial, ⟨_, rfl, ⟨[], .of rfl rfl rfl rfl rfl ⟨⟨_, rfl, AVLe.of_eq ?_⟩, rfl, trivial⟩ trivial⟩⟩⟩
  · have h0 : ¬ 0 < letter := by simpa using hb
    have h1 : decide (0 < letter) = false := by simpa using h0
    show AV.d (encFrame ⟨decide (0 < letter), 0, zeroBlock, false, false, false, false, ⟨0, 0⟩⟩) = AV.d (encFrame (oneF letter block))
    rw [h1, oneF, if_neg h0]
    rfl
  all_goals (simp_all [oneF, retOne, AV.ren, D.chainSet, encFrame, r39]; try rfl)
end Go.Proofs.Ytmdfeekpehcieaa

/- The list of letters. -/
namespace Go.Proofs.Ytmdfeekpehcieaa
open Go.Eng
set_option maxHeartbeats 1000000
attribute [local irreducible] WC RegS RegD SeqQ BlkQ ScoQ RegK CutK Sat SatN FnIs LoopQ StepIs OpIs
def lit : ByteArray := { data := #[45, 99, 114, 100, 98, 108] }
def byteAt (s : ByteArray) (i : Nat) : Int := ((s[i]?).map (fun b => (b.toNat : Int))).getD 0
def lettersAt (s : ByteArray) (i k : Nat) : List Frame := (List.range k).flatMap fun j => if byteAt s i = byteAt lit j then [oneF j i] else []
def letters (s : ByteArray) (i : Nat) : List Frame := (List.range i).flatMap fun j => lettersAt s j 6
theorem lettersAt_len (s : ByteArray) (i k : Nat) : (lettersAt s i k).length ≤ k := by
  induction k with
  | zero => simp [lettersAt]
  | succ k ih =>
    simp only [lettersAt, List.range_succ, List.flatMap_append, List.length_append] at ih ⊢
    have : (List.flatMap (fun j => if byteAt s i = byteAt lit j then [oneF j i] else []) [k]).length ≤ 1 := by
      simp only [List.flatMap_singleton]; split <;> simp
    omega
theorem letters_len (s : ByteArray) (i : Nat) : (letters s i).length ≤ 6 * i := by
  induction i with
  | zero => simp [letters]
  | succ i ih =>
    have := lettersAt_len s i 6
    simp only [letters, List.range_succ, List.flatMap_append, List.length_append, List.flatMap_singleton] at ih ⊢
    omega
theorem lettersAt_succ (s : ByteArray) (i k : Nat) : lettersAt s i (k + 1) = lettersAt s i k ++ if byteAt s i = byteAt lit k then [oneF k i] else [] := by
  simp [lettersAt, List.range_succ]
theorem letters_succ (s : ByteArray) (i : Nat) : letters s (i + 1) = letters s i ++ lettersAt s i 6 := by
  simp [letters, List.range_succ]
theorem list_is (s : ByteArray) (hs : s.size ≤ 1000) : FnIs Try.prog 53 [.d (.sc (.string s))] [] (.own 64 0 (letters s s.size).length 40 none) [(64, .ds 39 40 false encFrame (letters s s.size))] := by
  refine fnIs_of tab_ok Try.func53 rfl rfl rfl ?_
  refine wc_seq ?_
  refine wc_region ?_
  refine reg_quiet rfl (step_C tab_ok (fun K hk => hk)) ?_
  refine reg_nil ?_
  refine seq_n ?_
  refine wc_seq ?_
  refine wc_region ?_
  refine reg_quiet rfl (step_C tab_ok (fun K hk => hk)) ?_
  refine reg_nil ?_
  refine seq_n ?_
  refine wc_seq ?_
  refine wc_seq ?_
  refine wc_region ?_
  refine reg_quiet rfl (step_C tab_ok (fun K hk => hk)) ?_
  refine reg_nil ?_
  refine seq_n ?_
  refine wc_block ?_
  refine wc_inv (fun i : Nat => ⟨[(4, .int .i64 i), (3, .own 64 0 (letters s i).length 40 none), (0, .d (.sc (.string s)))], [(64, some (.ds 39 40 false encFrame (letters s i)))], 72, Try.f53.ntmps, 64⟩) (fun i => i ≤ s.size) (fun i => s.size - i) 0 [(64, none)] (by omega)
    (.of rfl rfl rfl rfl rfl ⟨⟨_, rfl, .refl _⟩, rfl, ⟨_, rfl, .refl _⟩, rfl, ⟨_, rfl, .refl _⟩, rfl, trivial⟩ ⟨⟨rfl, rfl, rfl⟩, trivial⟩) ?_
  intro i hi
  refine wc_of ?_
  refine wc_seq ?_
  refine wc_seq ?_
  refine wc_region ?_
  refine reg_quiet rfl (step_C tab_ok (fun K hk => hk)) ?_
  refine reg_quiet rfl (step_C tab_ok (fun K hk => hk)) ?_
  refine reg_quiet rfl (len_string tab_ok rfl rfl) ?_
  refine reg_quiet rfl (step_C tab_ok (fun K hk => hk)) ?_
  refine reg_nil ?_
  refine seq_n ?_
  refine wc_cond rfl (fun hb => ?_) (fun hb => ?_)
  · have hlt : i < s.size := by simpa using hb
    obtain ⟨c, hc⟩ : ∃ c, s[((i : Int)).toNat]? = some c := by
      have : s[i]? = some s[i] := by simp [hlt]
      exact ⟨_, by rw [Int.toNat_natCast]; exact this⟩
    have hci : byteAt s i = (c.toNat : Int) := by simp only [Int.toNat_natCast] at hc; simp [byteAt, hc]
    have hlen1 := letters_len s i
    refine wc_skip ?_
    refine seq_n ?_
    refine wc_seq ?_
    refine wc_block ?_
    refine wc_seq ?_
    refine wc_region ?_
    refine reg_quiet rfl (step_C tab_ok (fun K hk => hk)) ?_
    refine reg_nil ?_
    refine seq_n ?_
    refine wc_block ?_
    refine wc_inv (fun k : Nat => ⟨[(5, .int .i64 k), (4, .int .i64 i), (3, .own 64 0 (letters s i ++ lettersAt s i k).length 40 none), (0, .d (.sc (.string s)))], [(64, some (.ds 39 40 false encFrame (letters s i ++ lettersAt s i k)))], 72, Try.f53.ntmps, 64⟩) (fun k => k ≤ 6) (fun k => 6 - k) 0 [] (by omega)
      (.of rfl rfl rfl rfl rfl ⟨⟨_, rfl, .refl _⟩, rfl, ⟨_, rfl, .refl _⟩, rfl, ⟨_, rfl, .of_eq (by simp [lettersAt]; rfl)⟩, rfl, ⟨_, rfl, .refl _⟩, rfl, trivial⟩ ⟨⟨rfl, rfl, _, rfl, .of_eq (by simp [lettersAt]; rfl)⟩, trivial⟩) ?_
    intro k hk
    refine wc_of ?_
    refine wc_seq ?_
    refine wc_seq ?_
    refine wc_region ?_
    refine reg_quiet rfl (step_C tab_ok (fun K hk => hk)) ?_
    refine reg_quiet rfl (step_C tab_ok (fun K hk => hk)) ?_
    refine reg_nil ?_
    refine seq_n ?_
    refine wc_cond rfl (fun hb2 => ?_) (fun hb2 => ?_)
    · have hk6 : k < 6 := by have := of_decide_eq_true hb2; omega
      obtain ⟨d, hd⟩ : ∃ d, lit[((k : Int)).toNat]? = some d := by
        have : lit[k]? = some (lit[k]'(hk6)) := getElem?_pos lit k hk6
        exact ⟨_, by rw [Int.toNat_natCast]; exact this⟩
      have hdk : byteAt lit k = (d.toNat : Int) := by simp only [Int.toNat_natCast] at hd; simp [byteAt, hd]
      have hlen2 := lettersAt_len s i k
      have hlen : (letters s i ++ lettersAt s i k).length + 1 ≤ 1048576 := by simp only [List.length_append]; omega
      unfold lit at hd
      refine wc_skip ?_
      refine seq_n ?_
      refine wc_seq ?_
      refine wc_block ?_
      refine wc_seq ?_
      refine wc_draw (by kernel_rfl) ?_
      refine dreg_step rfl (step_C tab_ok (fun K hk => hk)) rfl rfl ?_
      refine dreg_step rfl (step_C tab_ok (fun K hk => hk)) rfl rfl ?_
      refine dreg_step rfl (index_str tab_ok rfl rfl rfl (by omega) (by assumption) rfl) rfl rfl ?_
      refine dreg_step rfl (step_C tab_ok (fun K hk => hk)) rfl rfl ?_
      refine dreg_step rfl (index_str tab_ok rfl rfl rfl (by omega) (by assumption) rfl) rfl rfl ?_
      refine dreg_step rfl (step_C tab_ok (fun K hk => hk)) rfl rfl ?_
      refine dreg_nil (by kernel_rfl) ?_
      refine seq_n ?_
      refine wc_cond rfl (fun hb3 => ?_) (fun hb3 => ?_)
      · have he : byteAt s i = byteAt lit k := by rw [hci, hdk]; simpa using hb3
        have hs1 : lettersAt s i (k + 1) = lettersAt s i k ++ [oneF k i] := by rw [lettersAt_succ, if_pos he]
        have hl1 : (letters s i ++ lettersAt s i (k + 1)).length = (letters s i ++ lettersAt s i k).length + 1 := by rw [hs1, ← List.append_assoc, List.length_append (bs := [_])]; rfl
        refine wc_region ?_
        refine reg_quiet rfl (step_C tab_ok (fun K hk => hk)) ?_
        refine reg_quiet rfl (step_C tab_ok (fun K hk => hk)) ?_
        refine reg_quiet rfl (step_C tab_ok (fun K hk => hk)) ?_
        refine reg_quiet rfl (call_r (one_is _ _) rfl rfl (arg_e (arg_e arg_nil)) (.inl rfl) (fun _ => rfl)) ?_
        refine reg_new (build_slice tab_ok rfl rfl rfl rfl rfl rfl rfl rfl) rfl ?_
        refine reg_new2 (append_one (s := 40) tab_ok (oneF k i) rfl rfl rfl rfl rfl rfl rfl rfl rfl hlen rfl) rfl ?_
        refine reg_quiet rfl (step_C tab_ok (fun K hk => hk)) ?_
        refine reg_nil ?_
        refine blk_n ?_
        refine seq_n ?_
        refine wc_region ?_
        refine reg_quiet rfl (step_C tab_ok (fun K hk => hk)) ?_
        refine reg_quiet rfl (add_int tab_ok rfl rfl (wrap_i64 (by omega) (by omega))) ?_
        refine reg_quiet rfl (step_C tab_ok (fun K hk => hk)) ?_
        refine reg_nil ?_
        refine loop_n (k + 1) [(64, some 176)] hk6 (by omega) ?_
        exact .of rfl rfl rfl rfl rfl ⟨⟨_, rfl, .refl _⟩, rfl, ⟨_, rfl, .refl _⟩, rfl, ⟨_, rfl, .of_eq (by rw [hl1]; rfl)⟩, rfl, ⟨_, rfl, .refl _⟩, rfl, trivial⟩ ⟨⟨rfl, rfl, _, rfl, .of_eq (by rw [hs1, ← List.append_assoc]; rfl)⟩, trivial⟩
      · have he : ¬ byteAt s i = byteAt lit k := by rw [hci, hdk]; simpa using hb3
        have hs1 : lettersAt s i (k + 1) = lettersAt s i k := by rw [lettersAt_succ, if_neg he]; simp
        refine wc_skip ?_
        refine blk_n ?_
        refine seq_n ?_
        refine wc_region ?_
        refine reg_quiet rfl (step_C tab_ok (fun K hk => hk)) ?_
        refine reg_quiet rfl (add_int tab_ok rfl rfl (wrap_i64 (by omega) (by omega))) ?_
        refine reg_quiet rfl (step_C tab_ok (fun K hk => hk)) ?_
        refine reg_nil ?_
        refine loop_n (k + 1) [] hk6 (by omega) ?_
        exact .of rfl rfl rfl rfl rfl ⟨⟨_, rfl, .refl _⟩, rfl, ⟨_, rfl, .refl _⟩, rfl, ⟨_, rfl, .of_eq (by rw [hs1]; rfl)⟩, rfl, ⟨_, rfl, .refl _⟩, rfl, trivial⟩ ⟨⟨rfl, rfl, _, rfl, .of_eq (by rw [hs1]; rfl)⟩, trivial⟩
    · have hk6 : k = 6 := by have := of_decide_eq_false hb2; omega
      subst hk6
      refine wc_exit ?_
      refine seq_x ?_
      refine loop_x ?_
      refine blk_x ?_
      refine blk_n ?_
      refine seq_n ?_
      refine wc_region ?_
      refine reg_quiet rfl (step_C tab_ok (fun K hk => hk)) ?_
      refine reg_quiet rfl (add_int tab_ok rfl rfl (wrap_i64 (by omega) (by omega))) ?_
      refine reg_quiet rfl (step_C tab_ok (fun K hk => hk)) ?_
      refine reg_nil ?_
      refine loop_n (i + 1) [] hlt (by omega) ?_
      exact .of rfl rfl rfl rfl rfl ⟨⟨_, rfl, .refl _⟩, rfl, ⟨_, rfl, .of_eq (by rw [letters_succ]; rfl)⟩, rfl, ⟨_, rfl, .refl _⟩, rfl, trivial⟩ ⟨⟨rfl, rfl, _, rfl, .of_eq (by rw [letters_succ]; rfl)⟩, trivial⟩
  · have hi2 : i = s.size := by have := of_decide_eq_false hb; omega
    refine wc_exit ?_
    refine seq_x ?_
    refine loop_x ?_
    refine blk_x ?_
    refine seq_n ?_
    refine wc_seq ?_
    refine wc_region ?_
    refine reg_quiet rfl (step_C tab_ok (fun K hk => hk)) ?_
    refine reg_quiet rfl (step_C tab_ok (fun K hk => hk)) ?_
    refine reg_nil ?_
    refine seq_n ?_
    refine wc_ret ?_
    refine ⟨trivial, [], .of rfl rfl rfl rfl rfl ⟨⟨_, rfl, .of_eq (by rw [hi2]; rfl)⟩, rfl, trivial⟩ ⟨⟨rfl, rfl, _, rfl, .of_eq (by rw [hi2]; rfl)⟩, trivial⟩⟩
end Go.Proofs.Ytmdfeekpehcieaa

/- The searches. -/
namespace Go.Proofs.Ytmdfeekpehcieaa
open Go.Eng
set_option maxHeartbeats 1000000
attribute [local irreducible] WC RegS RegD SeqQ BlkQ ScoQ RegK CutK Sat SatN FnIs LoopQ StepIs OpIs
def fidx {α : Type} (p : α → Bool) (l : List α) : Int := match l.findIdx? p with
  | some i => i
  | none => -1
def UpTo {α : Type} (p : α → Bool) (l : List α) (i : Nat) : Prop := i ≤ l.length ∧ ∀ (j : Nat) f, j < i → l[j]? = some f → p f = false
theorem upTo_zero {α : Type} (p : α → Bool) (l : List α) : UpTo p l 0 := ⟨Nat.zero_le _, fun _ _ h => absurd h (Nat.not_lt_zero _)⟩
theorem upTo_succ {α : Type} {p : α → Bool} {l : List α} {i : Nat} {f : α} (h : UpTo p l i) (hf : l[i]? = some f) (hp : p f = false) : UpTo p l (i + 1) := by
  refine ⟨(List.getElem?_eq_some_iff.1 hf).1, fun j g hj hg => ?_⟩
  rcases Nat.lt_or_ge j i with h1 | h1
  · exact h.2 j g h1 hg
  · have : j = i := by omega
    subst this
    rw [hf] at hg
    cases hg
    exact hp
theorem fidx_hit {α : Type} {p : α → Bool} {l : List α} {i : Nat} {f : α} (h : UpTo p l i) (hf : l[i]? = some f) (hp : p f = true) : fidx p l = i := by
  have : l.findIdx? p = some i := by
    rw [List.findIdx?_eq_some_iff_getElem]
    obtain ⟨h1, rfl⟩ := List.getElem?_eq_some_iff.1 hf
    refine ⟨h1, hp, fun j hj => ?_⟩
    have := h.2 j l[j] hj (by simp)
    simp [this]
  simp [fidx, this]
theorem fidx_miss {α : Type} {p : α → Bool} {l : List α} {i : Nat} (h : UpTo p l i) (hi : i = l.length) : fidx p l = -1 := by
  have : l.findIdx? p = none := by
    rw [List.findIdx?_eq_none_iff]
    intro x hx
    obtain ⟨j, hj, rfl⟩ := List.getElem_of_mem hx
    exact h.2 j l[j] (by omega) (by simp)
  simp [fidx, this]
theorem any_hit {α : Type} {p : α → Bool} {l : List α} {i : Nat} {f : α} (hf : l[i]? = some f) (hp : p f = true) : l.any p = true := List.any_eq_true.2 ⟨f, List.mem_of_getElem? hf, hp⟩
theorem any_miss {α : Type} {p : α → Bool} {l : List α} {i : Nat} (h : UpTo p l i) (hi : i = l.length) : l.any p = false := by
  rw [List.any_eq_false]
  intro x hx
  obtain ⟨j, hj, rfl⟩ := List.getElem_of_mem hx
  have := h.2 j l[j] (by omega) (by simp)
  simp [this]
theorem unused_is (l : List Frame) (hlen : l.length ≤ 1000000) : FnIs Try.prog 59 [.d (.arr 40 encFrame l)] [] (.int .i64 (fidx (fun f => !f.used) l)) [] := by
  refine fnIs_of tab_ok Try.func59 rfl rfl rfl ?_
  refine wc_seq ?_
  refine wc_region ?_
  refine reg_quiet rfl (step_C tab_ok (fun K hk => hk)) ?_
  refine reg_nil ?_
  refine seq_n ?_
  refine wc_seq ?_
  refine wc_seq ?_
  refine wc_region ?_
  refine reg_quiet rfl (step_C tab_ok (fun K hk => hk)) ?_
  refine reg_nil ?_
  refine seq_n ?_
  refine wc_block ?_
  refine wc_inv (fun i : Nat => ⟨[(3, .int .i64 i), (0, .d (.arr 40 encFrame l))], [], 72, Try.f59.ntmps, 64⟩) (UpTo (fun f => !f.used) l) (fun i => l.length - i) 0 [] (upTo_zero _ _)
    (.of rfl rfl rfl rfl rfl ⟨⟨_, rfl, .refl _⟩, rfl, ⟨_, rfl, .refl _⟩, rfl, trivial⟩ trivial) ?_
  intro i hinv
  have hi := hinv.1
  refine wc_of ?_
  refine wc_seq ?_
  refine wc_seq ?_
  refine wc_region ?_
  refine reg_quiet rfl (step_C tab_ok (fun K hk => hk)) ?_
  refine reg_quiet rfl (step_C tab_ok (fun K hk => hk)) ?_
  refine reg_quiet rfl (len_arr tab_ok rfl rfl) ?_
  refine reg_quiet rfl (step_C tab_ok (fun K hk => hk)) ?_
  refine reg_nil ?_
  refine seq_n ?_
  refine wc_cond rfl (fun hb => ?_) (fun hb => ?_)
  · have hlt : i < l.length := by have := of_decide_eq_true hb; omega
    obtain ⟨f, hf⟩ : ∃ f, l[i]? = some f := ⟨_, List.getElem?_eq_getElem hlt⟩
    have hf' : l[((i : Int)).toNat]? = some f := by rw [Int.toNat_natCast]; exact hf
    refine wc_skip ?_
    refine seq_n ?_
    refine wc_seq ?_
    refine wc_block ?_
    refine wc_seq ?_
    refine wc_region ?_
    refine reg_quiet rfl (step_C tab_ok (fun K hk => hk)) ?_
    refine reg_quiet rfl (step_C tab_ok (fun K hk => hk)) ?_
    refine reg_quiet rfl (index_arr tab_ok rfl rfl rfl rfl rfl (by omega) (by assumption)) ?_
    refine reg_quiet rfl (step_C tab_ok (fun K hk => hk)) ?_
    refine reg_quiet rfl (load_i tab_ok rfl rfl) ?_
    refine reg_quiet rfl (step_C tab_ok (fun K hk => hk)) ?_
    refine reg_nil ?_
    refine seq_n ?_
    refine wc_cond rfl (fun hu => ?_) (fun hu => ?_)
    · refine wc_seq ?_
      refine wc_region ?_
      refine reg_quiet rfl (step_C tab_ok (fun K hk => hk)) ?_
      refine reg_quiet rfl (step_C tab_ok (fun K hk => hk)) ?_
      refine reg_nil ?_
      refine seq_n ?_
      refine wc_ret ?_
      refine blk_r ?_
      refine seq_r ?_
      refine loop_r ?_
      refine blk_r ?_
      refine seq_r ?_
      refine ⟨trivial, [], .of rfl rfl rfl rfl rfl ⟨⟨_, rfl, AVLe.of_eq ?_⟩, rfl, trivial⟩ trivial⟩
      rw [fidx_hit hinv hf hu]
      rfl
    · refine wc_skip ?_
      refine blk_n ?_
      refine seq_n ?_
      refine wc_region ?_
      refine reg_quiet rfl (step_C tab_ok (fun K hk => hk)) ?_
      refine reg_quiet rfl (add_int tab_ok rfl rfl (wrap_i64 (by omega) (by omega))) ?_
      refine reg_quiet rfl (step_C tab_ok (fun K hk => hk)) ?_
      refine reg_nil ?_
      refine loop_n (i + 1) [] (upTo_succ hinv hf hu) (by omega) ?_
      exact .of rfl rfl rfl rfl rfl ⟨⟨_, rfl, .refl _⟩, rfl, ⟨_, rfl, .refl _⟩, rfl, trivial⟩ trivial
  · have he : i = l.length := by have := of_decide_eq_false hb; omega
    refine wc_exit ?_
    refine seq_x ?_
    refine loop_x ?_
    refine blk_x ?_
    refine seq_n ?_
    refine wc_seq ?_
    refine wc_region ?_
    refine reg_quiet rfl (step_C tab_ok (fun K hk => hk)) ?_
    refine reg_nil ?_
    refine seq_n ?_
    refine wc_ret ?_
    refine ⟨trivial, [], .of rfl rfl rfl rfl rfl ⟨⟨_, rfl, AVLe.of_eq ?_⟩, rfl, trivial⟩ trivial⟩
    rw [fidx_miss hinv he]
    rfl
theorem refexists_is (l : List Frame) (hlen : l.length ≤ 1000000) : FnIs Try.prog 18 [.d (.arr 40 encFrame l)] [] (.int .i64 (if l.any (fun f => !f.used || evB f) = true then 1 else 0)) [] := by
  refine fnIs_of tab_ok Try.func18 rfl rfl rfl ?_
  refine wc_seq ?_
  refine wc_region ?_
  refine reg_quiet rfl (step_C tab_ok (fun K hk => hk)) ?_
  refine reg_nil ?_
  refine seq_n ?_
  refine wc_seq ?_
  refine wc_seq ?_
  refine wc_region ?_
  refine reg_quiet rfl (step_C tab_ok (fun K hk => hk)) ?_
  refine reg_nil ?_
  refine seq_n ?_
  refine wc_block ?_
  refine wc_inv (fun i : Nat => ⟨[(3, .int .i64 i), (0, .d (.arr 40 encFrame l))], [], 72, Try.f18.ntmps, 64⟩) (UpTo (fun f => !f.used || evB f) l) (fun i => l.length - i) 0 [] (upTo_zero _ _)
    (.of rfl rfl rfl rfl rfl ⟨⟨_, rfl, .refl _⟩, rfl, ⟨_, rfl, .refl _⟩, rfl, trivial⟩ trivial) ?_
  intro i hinv
  have hi := hinv.1
  refine wc_of ?_
  refine wc_seq ?_
  refine wc_seq ?_
  refine wc_region ?_
  refine reg_quiet rfl (step_C tab_ok (fun K hk => hk)) ?_
  refine reg_quiet rfl (step_C tab_ok (fun K hk => hk)) ?_
  refine reg_quiet rfl (len_arr tab_ok rfl rfl) ?_
  refine reg_quiet rfl (step_C tab_ok (fun K hk => hk)) ?_
  refine reg_nil ?_
  refine seq_n ?_
  refine wc_cond rfl (fun hb => ?_) (fun hb => ?_)
  · have hlt : i < l.length := by have := of_decide_eq_true hb; omega
    obtain ⟨f, hf⟩ : ∃ f, l[i]? = some f := ⟨_, List.getElem?_eq_getElem hlt⟩
    have hf' : l[((i : Int)).toNat]? = some f := by rw [Int.toNat_natCast]; exact hf
    refine wc_skip ?_
    refine seq_n ?_
    refine wc_seq ?_
    refine wc_block ?_
    refine wc_seq_cut 23 (.bool (!f.used || evB f)) _ rfl ?_ ?_
    · refine reg_quiet rfl (step_C tab_ok (fun K hk => hk)) ?_
      refine reg_quiet rfl (step_C tab_ok (fun K hk => hk)) ?_
      refine reg_quiet rfl (index_arr tab_ok rfl rfl rfl rfl rfl (by omega) (by assumption)) ?_
      refine reg_quiet rfl (step_C tab_ok (fun K hk => hk)) ?_
      refine reg_quiet rfl (load_i tab_ok rfl rfl) ?_
      refine reg_quiet rfl (step_C tab_ok (fun K hk => hk)) ?_
      refine reg_quiet rfl (step_C tab_ok (fun K hk => hk)) ?_
      refine reg_split rfl rfl rfl (fun hb => ?_) (fun hb => ?_)
      refine reg_on rfl rfl (by assumption) ?_
      refine reg_quiet rfl (step_C tab_ok (fun K hk => hk)) ?_
      refine reg_on rfl rfl (by assumption) ?_
      refine reg_quiet rfl (step_C tab_ok (fun K hk => hk)) ?_
      refine reg_on rfl rfl (by assumption) ?_
      refine reg_quiet rfl (index_arr tab_ok rfl rfl rfl rfl rfl (by omega) (by assumption)) ?_
      refine reg_on rfl rfl (by assumption) ?_
      refine reg_quiet rfl (load_i tab_ok rfl rfl) ?_
      refine reg_on rfl rfl (by assumption) ?_
      refine reg_quiet rfl (call_r (ev_is _) rfl rfl (arg_e arg_nil) (.inl rfl) (fun _ => rfl)) ?_
      refine reg_on rfl rfl (by assumption) ?_
      refine reg_quiet rfl (step_C tab_ok (fun K hk => hk)) ?_
      refine reg_quiet rfl (pick_F tab_ok rfl (by assumption) rfl) ?_
      rotate_left
      refine reg_skip rfl rfl (by assumption) rfl rfl ?_
      refine reg_skip rfl rfl (by assumption) rfl rfl ?_
      refine reg_skip rfl rfl (by assumption) rfl rfl ?_
      refine reg_skip rfl rfl (by assumption) rfl rfl ?_
      refine reg_skip rfl rfl (by assumption) rfl rfl ?_
      refine reg_skip rfl rfl (by assumption) rfl rfl ?_
      refine reg_quiet rfl (pick_T tab_ok rfl (by assumption) rfl) ?_
      rotate_left
      all_goals refine reg_cut 14 rfl rfl rfl rfl rfl rfl rfl rfl rfl (AVLe.of_eq ?_)
      all_goals (first | rfl | (simp_all; done) | (grind))
    refine wc_cond rfl (fun hu => ?_) (fun hu => ?_)
    · refine wc_seq ?_
      refine wc_region ?_
      refine reg_quiet rfl (step_C tab_ok (fun K hk => hk)) ?_
      refine reg_nil ?_
      refine seq_n ?_
      refine wc_ret ?_
      refine blk_r ?_
      refine seq_r ?_
      refine loop_r ?_
      refine blk_r ?_
      refine seq_r ?_
      refine ⟨trivial, [], .of rfl rfl rfl rfl rfl ⟨⟨_, rfl, AVLe.of_eq ?_⟩, rfl, trivial⟩ trivial⟩
      rw [any_hit hf hu]
      rfl
    · refine wc_skip ?_
      refine blk_n ?_
      refine seq_n ?_
      refine wc_region ?_
      refine reg_quiet rfl (step_C tab_ok (fun K hk => hk)) ?_
      refine reg_quiet rfl (add_int tab_ok rfl rfl (wrap_i64 (by omega) (by omega))) ?_
      refine reg_quiet rfl (step_C tab_ok (fun K hk => hk)) ?_
      refine reg_nil ?_
      refine loop_n (i + 1) [] (upTo_succ hinv hf hu) (by omega) ?_
      exact .of rfl rfl rfl rfl rfl ⟨⟨_, rfl, .refl _⟩, rfl, ⟨_, rfl, .refl _⟩, rfl, trivial⟩ trivial
  · have he : i = l.length := by have := of_decide_eq_false hb; omega
    refine wc_exit ?_
    refine seq_x ?_
    refine loop_x ?_
    refine blk_x ?_
    refine seq_n ?_
    refine wc_seq ?_
    refine wc_region ?_
    refine reg_quiet rfl (step_C tab_ok (fun K hk => hk)) ?_
    refine reg_nil ?_
    refine seq_n ?_
    refine wc_ret ?_
    refine ⟨trivial, [], .of rfl rfl rfl rfl rfl ⟨⟨_, rfl, AVLe.of_eq ?_⟩, rfl, trivial⟩ trivial⟩
    rw [any_miss hinv he]
    rfl
theorem refwaiting_is (l : List Frame) (hlen : l.length ≤ 1000000) : FnIs Try.prog 30 [.d (.arr 40 encFrame l)] [] (.int .i64 (fidx (fun f => f.dirty && !f.busy) l)) [] := by
  refine fnIs_of tab_ok Try.func30 rfl rfl rfl ?_
  refine wc_seq ?_
  refine wc_region ?_
  refine reg_quiet rfl (step_C tab_ok (fun K hk => hk)) ?_
  refine reg_nil ?_
  refine seq_n ?_
  refine wc_seq ?_
  refine wc_seq ?_
  refine wc_region ?_
  refine reg_quiet rfl (step_C tab_ok (fun K hk => hk)) ?_
  refine reg_nil ?_
  refine seq_n ?_
  refine wc_block ?_
  refine wc_inv (fun i : Nat => ⟨[(3, .int .i64 i), (0, .d (.arr 40 encFrame l))], [], 72, Try.f30.ntmps, 64⟩) (UpTo (fun f => f.dirty && !f.busy) l) (fun i => l.length - i) 0 [] (upTo_zero _ _)
    (.of rfl rfl rfl rfl rfl ⟨⟨_, rfl, .refl _⟩, rfl, ⟨_, rfl, .refl _⟩, rfl, trivial⟩ trivial) ?_
  intro i hinv
  have hi := hinv.1
  refine wc_of ?_
  refine wc_seq ?_
  refine wc_seq ?_
  refine wc_region ?_
  refine reg_quiet rfl (step_C tab_ok (fun K hk => hk)) ?_
  refine reg_quiet rfl (step_C tab_ok (fun K hk => hk)) ?_
  refine reg_quiet rfl (len_arr tab_ok rfl rfl) ?_
  refine reg_quiet rfl (step_C tab_ok (fun K hk => hk)) ?_
  refine reg_nil ?_
  refine seq_n ?_
  refine wc_cond rfl (fun hb => ?_) (fun hb => ?_)
  · have hlt : i < l.length := by have := of_decide_eq_true hb; omega
    obtain ⟨f, hf⟩ : ∃ f, l[i]? = some f := ⟨_, List.getElem?_eq_getElem hlt⟩
    have hf' : l[((i : Int)).toNat]? = some f := by rw [Int.toNat_natCast]; exact hf
    refine wc_skip ?_
    refine seq_n ?_
    refine wc_seq ?_
    refine wc_block ?_
    refine wc_seq_cut 22 (.bool (f.dirty && !f.busy)) _ rfl ?_ ?_
    · refine reg_quiet rfl (step_C tab_ok (fun K hk => hk)) ?_
      refine reg_quiet rfl (step_C tab_ok (fun K hk => hk)) ?_
      refine reg_quiet rfl (index_arr tab_ok rfl rfl rfl rfl rfl (by omega) (by assumption)) ?_
      refine reg_quiet rfl (step_C tab_ok (fun K hk => hk)) ?_
      refine reg_quiet rfl (load_i tab_ok rfl rfl) ?_
      refine reg_quiet rfl (step_C tab_ok (fun K hk => hk)) ?_
      refine reg_split rfl rfl rfl (fun hb => ?_) (fun hb => ?_)
      refine reg_on rfl rfl (by assumption) ?_
      refine reg_quiet rfl (step_C tab_ok (fun K hk => hk)) ?_
      refine reg_on rfl rfl (by assumption) ?_
      refine reg_quiet rfl (step_C tab_ok (fun K hk => hk)) ?_
      refine reg_on rfl rfl (by assumption) ?_
      refine reg_quiet rfl (index_arr tab_ok rfl rfl rfl rfl rfl (by omega) (by assumption)) ?_
      refine reg_on rfl rfl (by assumption) ?_
      refine reg_quiet rfl (step_C tab_ok (fun K hk => hk)) ?_
      refine reg_on rfl rfl (by assumption) ?_
      refine reg_quiet rfl (load_i tab_ok rfl rfl) ?_
      refine reg_on rfl rfl (by assumption) ?_
      refine reg_quiet rfl (step_C tab_ok (fun K hk => hk)) ?_
      refine reg_quiet rfl (pick_T tab_ok rfl (by assumption) rfl) ?_
      rotate_left
      refine reg_skip rfl rfl (by assumption) rfl rfl ?_
      refine reg_skip rfl rfl (by assumption) rfl rfl ?_
      refine reg_skip rfl rfl (by assumption) rfl rfl ?_
      refine reg_skip rfl rfl (by assumption) rfl rfl ?_
      refine reg_skip rfl rfl (by assumption) rfl rfl ?_
      refine reg_skip rfl rfl (by assumption) rfl rfl ?_
      refine reg_quiet rfl (pick_F tab_ok rfl (by assumption) rfl) ?_
      rotate_left
      all_goals refine reg_cut 13 rfl rfl rfl rfl rfl rfl rfl rfl rfl (AVLe.of_eq ?_)
      all_goals (first | rfl | (simp_all; done) | (grind))
    refine wc_cond rfl (fun hu => ?_) (fun hu => ?_)
    · refine wc_seq ?_
      refine wc_region ?_
      refine reg_quiet rfl (step_C tab_ok (fun K hk => hk)) ?_
      refine reg_quiet rfl (step_C tab_ok (fun K hk => hk)) ?_
      refine reg_nil ?_
      refine seq_n ?_
      refine wc_ret ?_
      refine blk_r ?_
      refine seq_r ?_
      refine loop_r ?_
      refine blk_r ?_
      refine seq_r ?_
      refine ⟨trivial, [], .of rfl rfl rfl rfl rfl ⟨⟨_, rfl, AVLe.of_eq ?_⟩, rfl, trivial⟩ trivial⟩
      rw [fidx_hit hinv hf hu]
      rfl
    · refine wc_skip ?_
      refine blk_n ?_
      refine seq_n ?_
      refine wc_region ?_
      refine reg_quiet rfl (step_C tab_ok (fun K hk => hk)) ?_
      refine reg_quiet rfl (add_int tab_ok rfl rfl (wrap_i64 (by omega) (by omega))) ?_
      refine reg_quiet rfl (step_C tab_ok (fun K hk => hk)) ?_
      refine reg_nil ?_
      refine loop_n (i + 1) [] (upTo_succ hinv hf hu) (by omega) ?_
      exact .of rfl rfl rfl rfl rfl ⟨⟨_, rfl, .refl _⟩, rfl, ⟨_, rfl, .refl _⟩, rfl, trivial⟩ trivial
  · have he : i = l.length := by have := of_decide_eq_false hb; omega
    refine wc_exit ?_
    refine seq_x ?_
    refine loop_x ?_
    refine blk_x ?_
    refine seq_n ?_
    refine wc_seq ?_
    refine wc_region ?_
    refine reg_quiet rfl (step_C tab_ok (fun K hk => hk)) ?_
    refine reg_nil ?_
    refine seq_n ?_
    refine wc_ret ?_
    refine ⟨trivial, [], .of rfl rfl rfl rfl rfl ⟨⟨_, rfl, AVLe.of_eq ?_⟩, rfl, trivial⟩ trivial⟩
    rw [fidx_miss hinv he]
    rfl
theorem reffind_is (l : List Frame) (block : Int) (hlen : l.length ≤ 1000000) : FnIs Try.prog 28 [.d (.arr 40 encFrame l), .d (i6 block)] [] (.int .i64 (fidx (fun f => f.used && decide (f.block = block)) l)) [] := by
  refine fnIs_of tab_ok Try.func28 rfl rfl rfl ?_
  refine wc_seq ?_
  refine wc_region ?_
  refine reg_quiet rfl (step_C tab_ok (fun K hk => hk)) ?_
  refine reg_nil ?_
  refine seq_n ?_
  refine wc_seq ?_
  refine wc_seq ?_
  refine wc_region ?_
  refine reg_quiet rfl (step_C tab_ok (fun K hk => hk)) ?_
  refine reg_nil ?_
  refine seq_n ?_
  refine wc_block ?_
  refine wc_inv (fun i : Nat => ⟨[(5, .int .i64 i), (1, .d (i6 block)), (0, .d (.arr 40 encFrame l))], [], 72, Try.f28.ntmps, 64⟩) (UpTo (fun f => f.used && decide (f.block = block)) l) (fun i => l.length - i) 0 [] (upTo_zero _ _)
    (.of rfl rfl rfl rfl rfl ⟨⟨_, rfl, .refl _⟩, rfl, ⟨_, rfl, .refl _⟩, rfl, ⟨_, rfl, .refl _⟩, rfl, trivial⟩ trivial) ?_
  intro i hinv
  have hi := hinv.1
  refine wc_of ?_
  refine wc_seq ?_
  refine wc_seq ?_
  refine wc_region ?_
  refine reg_quiet rfl (step_C tab_ok (fun K hk => hk)) ?_
  refine reg_quiet rfl (step_C tab_ok (fun K hk => hk)) ?_
  refine reg_quiet rfl (len_arr tab_ok rfl rfl) ?_
  refine reg_quiet rfl (step_C tab_ok (fun K hk => hk)) ?_
  refine reg_nil ?_
  refine seq_n ?_
  refine wc_cond rfl (fun hb => ?_) (fun hb => ?_)
  · have hlt : i < l.length := by have := of_decide_eq_true hb; omega
    obtain ⟨f, hf⟩ : ∃ f, l[i]? = some f := ⟨_, List.getElem?_eq_getElem hlt⟩
    have hf' : l[((i : Int)).toNat]? = some f := by rw [Int.toNat_natCast]; exact hf
    refine wc_skip ?_
    refine seq_n ?_
    refine wc_seq ?_
    refine wc_block ?_
    refine wc_seq_cut 25 (.bool (f.used && decide (f.block = block))) _ rfl ?_ ?_
    · refine reg_quiet rfl (step_C tab_ok (fun K hk => hk)) ?_
      refine reg_quiet rfl (step_C tab_ok (fun K hk => hk)) ?_
      refine reg_quiet rfl (index_arr tab_ok rfl rfl rfl rfl rfl (by omega) (by assumption)) ?_
      refine reg_quiet rfl (step_C tab_ok (fun K hk => hk)) ?_
      refine reg_quiet rfl (load_i tab_ok rfl rfl) ?_
      refine reg_quiet rfl (step_C tab_ok (fun K hk => hk)) ?_
      refine reg_split rfl rfl rfl (fun hb => ?_) (fun hb => ?_)
      refine reg_on rfl rfl (by assumption) ?_
      refine reg_quiet rfl (step_C tab_ok (fun K hk => hk)) ?_
      refine reg_on rfl rfl (by assumption) ?_
      refine reg_quiet rfl (step_C tab_ok (fun K hk => hk)) ?_
      refine reg_on rfl rfl (by assumption) ?_
      refine reg_quiet rfl (index_arr tab_ok rfl rfl rfl rfl rfl (by omega) (by assumption)) ?_
      refine reg_on rfl rfl (by assumption) ?_
      refine reg_quiet rfl (step_C tab_ok (fun K hk => hk)) ?_
      refine reg_on rfl rfl (by assumption) ?_
      refine reg_quiet rfl (load_i tab_ok rfl rfl) ?_
      refine reg_on rfl rfl (by assumption) ?_
      refine reg_quiet rfl (step_C tab_ok (fun K hk => hk)) ?_
      refine reg_on rfl rfl (by assumption) ?_
      refine reg_quiet rfl (step_C tab_ok (fun K hk => hk)) ?_
      refine reg_quiet rfl (pick_T tab_ok rfl (by assumption) rfl) ?_
      rotate_left
      refine reg_skip rfl rfl (by assumption) rfl rfl ?_
      refine reg_skip rfl rfl (by assumption) rfl rfl ?_
      refine reg_skip rfl rfl (by assumption) rfl rfl ?_
      refine reg_skip rfl rfl (by assumption) rfl rfl ?_
      refine reg_skip rfl rfl (by assumption) rfl rfl ?_
      refine reg_skip rfl rfl (by assumption) rfl rfl ?_
      refine reg_skip rfl rfl (by assumption) rfl rfl ?_
      refine reg_quiet rfl (pick_F tab_ok rfl (by assumption) rfl) ?_
      rotate_left
      all_goals refine reg_cut 14 rfl rfl rfl rfl rfl rfl rfl rfl rfl (AVLe.of_eq ?_)
      all_goals (first | rfl | (simp_all; done) | (grind))
    refine wc_cond rfl (fun hu => ?_) (fun hu => ?_)
    · refine wc_seq ?_
      refine wc_region ?_
      refine reg_quiet rfl (step_C tab_ok (fun K hk => hk)) ?_
      refine reg_quiet rfl (step_C tab_ok (fun K hk => hk)) ?_
      refine reg_nil ?_
      refine seq_n ?_
      refine wc_ret ?_
      refine blk_r ?_
      refine seq_r ?_
      refine loop_r ?_
      refine blk_r ?_
      refine seq_r ?_
      refine ⟨trivial, [], .of rfl rfl rfl rfl rfl ⟨⟨_, rfl, AVLe.of_eq ?_⟩, rfl, trivial⟩ trivial⟩
      rw [fidx_hit hinv hf hu]
      rfl
    · refine wc_skip ?_
      refine blk_n ?_
      refine seq_n ?_
      refine wc_region ?_
      refine reg_quiet rfl (step_C tab_ok (fun K hk => hk)) ?_
      refine reg_quiet rfl (add_int tab_ok rfl rfl (wrap_i64 (by omega) (by omega))) ?_
      refine reg_quiet rfl (step_C tab_ok (fun K hk => hk)) ?_
      refine reg_nil ?_
      refine loop_n (i + 1) [] (upTo_succ hinv hf hu) (by omega) ?_
      exact .of rfl rfl rfl rfl rfl ⟨⟨_, rfl, .refl _⟩, rfl, ⟨_, rfl, .refl _⟩, rfl, ⟨_, rfl, .refl _⟩, rfl, trivial⟩ trivial
  · have he : i = l.length := by have := of_decide_eq_false hb; omega
    refine wc_exit ?_
    refine seq_x ?_
    refine loop_x ?_
    refine blk_x ?_
    refine seq_n ?_
    refine wc_seq ?_
    refine wc_region ?_
    refine reg_quiet rfl (step_C tab_ok (fun K hk => hk)) ?_
    refine reg_nil ?_
    refine seq_n ?_
    refine wc_ret ?_
    refine ⟨trivial, [], .of rfl rfl rfl rfl rfl ⟨⟨_, rfl, AVLe.of_eq ?_⟩, rfl, trivial⟩ trivial⟩
    rw [fidx_miss hinv he]
    rfl
end Go.Proofs.Ytmdfeekpehcieaa

/- The searches of the program. -/
namespace Go.Proofs.Ytmdfeekpehcieaa
open Go.Eng
set_option maxHeartbeats 1000000
attribute [local irreducible] WC RegS RegD SeqQ BlkQ ScoQ RegK CutK Sat SatN FnIs LoopQ StepIs OpIs
theorem exists1_is (f : Frame) : FnIs Try.prog 58 [.d (encFrame f)] [] (.bool (!f.used || evB f)) [] := by
  refine fnIs_of tab_ok Try.func58 rfl rfl rfl ?_
  refine wc_seq ?_
  refine wc_region ?_
  refine reg_new (step_C tab_ok (fun K hk => hk)) rfl ?_
  refine reg_quiet rfl (step_C tab_ok (fun K hk => hk)) ?_
  refine reg_nil ?_
  refine seq_n ?_
  refine wc_seq ?_
  refine wc_region ?_
  refine reg_quiet rfl (step_C tab_ok (fun K hk => hk)) ?_
  refine reg_quiet rfl (load_box tab_ok rfl rfl ⟨_, rfl, rfl⟩ rfl) ?_
  refine reg_quiet rfl (step_C tab_ok (fun K hk => hk)) ?_
  refine reg_quiet rfl (step_C tab_ok (fun K hk => hk)) ?_
  refine reg_split rfl rfl rfl (fun hb => ?_) (fun hb => ?_)
  refine reg_on rfl rfl (by assumption) ?_
  refine reg_quiet rfl (load_box tab_ok rfl rfl rfl rfl) ?_
  refine reg_on rfl rfl (by assumption) ?_
  refine reg_quiet rfl (call_r (evictable_is _) rfl rfl (arg_e arg_nil) (.inl rfl) (fun _ => rfl)) ?_
  refine reg_quiet rfl (pick_F tab_ok rfl (by assumption) rfl) ?_
  refine reg_quiet rfl (step_C tab_ok (fun K hk => hk)) ?_
  refine reg_nil ?_
  refine seq_n ?_
  refine wc_ret ?_
  rotate_left
  refine reg_skip rfl rfl (by assumption) rfl rfl ?_
  refine reg_skip rfl rfl (by assumption) rfl rfl ?_
  refine reg_quiet rfl (pick_T tab_ok rfl (by assumption) rfl) ?_
  refine reg_quiet rfl (step_C tab_ok (fun K hk => hk)) ?_
  refine reg_nil ?_
  refine seq_n ?_
  refine wc_ret ?_
  rotate_left
  all_goals refine ⟨trivial, [], .of rfl rfl rfl rfl rfl ⟨⟨_, rfl, AVLe.of_eq ?_⟩, rfl, trivial⟩ trivial⟩
  all_goals (simp_all [retOne, AV.ren]; done)
theorem waiting1_is (f : Frame) : FnIs Try.prog 62 [.d (encFrame f)] [] (.bool (f.dirty && !f.busy)) [] := by
  refine fnIs_of tab_ok Try.func62 rfl rfl rfl ?_
  refine wc_seq ?_
  refine wc_region ?_
  refine reg_new (step_C tab_ok (fun K hk => hk)) rfl ?_
  refine reg_quiet rfl (step_C tab_ok (fun K hk => hk)) ?_
  refine reg_nil ?_
  refine seq_n ?_
  refine wc_seq ?_
  refine wc_region ?_
  refine reg_quiet rfl (step_C tab_ok (fun K hk => hk)) ?_
  refine reg_quiet rfl (load_box tab_ok rfl rfl ⟨_, rfl, rfl⟩ rfl) ?_
  refine reg_quiet rfl (step_C tab_ok (fun K hk => hk)) ?_
  refine reg_split rfl rfl rfl (fun hb => ?_) (fun hb => ?_)
  refine reg_on rfl rfl (by assumption) ?_
  refine reg_quiet rfl (step_C tab_ok (fun K hk => hk)) ?_
  refine reg_on rfl rfl (by assumption) ?_
  refine reg_quiet rfl (load_box tab_ok rfl rfl ⟨_, rfl, rfl⟩ rfl) ?_
  refine reg_on rfl rfl (by assumption) ?_
  refine reg_quiet rfl (step_C tab_ok (fun K hk => hk)) ?_
  refine reg_quiet rfl (pick_T tab_ok rfl (by assumption) rfl) ?_
  refine reg_quiet rfl (step_C tab_ok (fun K hk => hk)) ?_
  refine reg_nil ?_
  refine seq_n ?_
  refine wc_ret ?_
  rotate_left
  refine reg_skip rfl rfl (by assumption) rfl rfl ?_
  refine reg_skip rfl rfl (by assumption) rfl rfl ?_
  refine reg_skip rfl rfl (by assumption) rfl rfl ?_
  refine reg_quiet rfl (pick_F tab_ok rfl (by assumption) rfl) ?_
  refine reg_quiet rfl (step_C tab_ok (fun K hk => hk)) ?_
  refine reg_nil ?_
  refine seq_n ?_
  refine wc_ret ?_
  rotate_left
  all_goals refine ⟨trivial, [], .of rfl rfl rfl rfl rfl ⟨⟨_, rfl, AVLe.of_eq ?_⟩, rfl, trivial⟩ trivial⟩
  all_goals (simp_all [retOne, AV.ren]; done)
theorem victim1_is (f : Frame) : FnIs Try.prog 55 [.d (encFrame f)] [] (.bool (!f.used)) [] := by
  refine fnIs_of tab_ok Try.func55 rfl rfl rfl ?_
  refine wc_seq ?_
  refine wc_region ?_
  refine reg_new (step_C tab_ok (fun K hk => hk)) rfl ?_
  refine reg_quiet rfl (step_C tab_ok (fun K hk => hk)) ?_
  refine reg_nil ?_
  refine seq_n ?_
  refine wc_seq ?_
  refine wc_region ?_
  refine reg_quiet rfl (step_C tab_ok (fun K hk => hk)) ?_
  refine reg_quiet rfl (load_box tab_ok rfl rfl ⟨_, rfl, rfl⟩ rfl) ?_
  refine reg_quiet rfl (step_C tab_ok (fun K hk => hk)) ?_
  refine reg_quiet rfl (step_C tab_ok (fun K hk => hk)) ?_
  refine reg_nil ?_
  refine seq_n ?_
  refine wc_ret ?_
  all_goals refine ⟨trivial, [], .of rfl rfl rfl rfl rfl ⟨⟨_, rfl, AVLe.of_eq ?_⟩, rfl, trivial⟩ trivial⟩
  all_goals (simp_all [retOne, AV.ren]; done)
theorem find1_is (block : Int) (f : Frame) : FnIs Try.prog 61 [.d (encFrame f), .ptr 0 []] [(0, .box 3 (.int .i64 block))] (.bool (f.used && decide (f.block = block))) [(0, .box 3 (.int .i64 block))] := by
  refine fnIs_of tab_ok Try.func61 rfl rfl rfl ?_
  refine wc_seq ?_
  refine wc_region ?_
  refine reg_new (step_C tab_ok (fun K hk => hk)) rfl ?_
  refine reg_quiet rfl (step_C tab_ok (fun K hk => hk)) ?_
  refine reg_nil ?_
  refine seq_n ?_
  refine wc_seq ?_
  refine wc_region ?_
  refine reg_quiet rfl (step_C tab_ok (fun K hk => hk)) ?_
  refine reg_quiet rfl (load_box tab_ok rfl rfl ⟨_, rfl, rfl⟩ rfl) ?_
  refine reg_quiet rfl (step_C tab_ok (fun K hk => hk)) ?_
  refine reg_split rfl rfl rfl (fun hb => ?_) (fun hb => ?_)
  refine reg_on rfl rfl (by assumption) ?_
  refine reg_quiet rfl (step_C tab_ok (fun K hk => hk)) ?_
  refine reg_on rfl rfl (by assumption) ?_
  refine reg_quiet rfl (load_box tab_ok rfl rfl ⟨_, rfl, rfl⟩ rfl) ?_
  refine reg_on rfl rfl (by assumption) ?_
  refine reg_quiet rfl (load_box tab_ok rfl rfl rfl rfl) ?_
  refine reg_on rfl rfl (by assumption) ?_
  refine reg_quiet rfl (step_C tab_ok (fun K hk => hk)) ?_
  refine reg_quiet rfl (pick_T tab_ok rfl (by assumption) rfl) ?_
  refine reg_quiet rfl (step_C tab_ok (fun K hk => hk)) ?_
  refine reg_nil ?_
  refine seq_n ?_
  refine wc_ret ?_
  rotate_left
  refine reg_skip rfl rfl (by assumption) rfl rfl ?_
  refine reg_skip rfl rfl (by assumption) rfl rfl ?_
  refine reg_skip rfl rfl (by assumption) rfl rfl ?_
  refine reg_skip rfl rfl (by assumption) rfl rfl ?_
  refine reg_quiet rfl (pick_F tab_ok rfl (by assumption) rfl) ?_
  refine reg_quiet rfl (step_C tab_ok (fun K hk => hk)) ?_
  refine reg_nil ?_
  refine seq_n ?_
  refine wc_ret ?_
  rotate_left
  all_goals refine ⟨trivial, [], .of rfl rfl rfl rfl rfl ⟨⟨_, rfl, AVLe.of_eq ?_⟩, rfl, trivial⟩ ⟨⟨rfl, rfl, _, rfl, .refl _⟩, trivial⟩⟩
  all_goals (simp_all [retOne, AV.ren]; done)
theorem after_is (at_ n : Int) (h0 : 0 ≤ at_) (h1 : at_ ≤ 1000000) (h2 : 0 ≤ n) (h3 : n ≤ 1000000) : FnIs Try.prog 60 [.d (i6 at_), .d (i6 n)] [] (.int .i64 (if at_ = n - 1 then 0 else at_ + 1)) [] := by
  refine fnIs_of tab_ok Try.func60 rfl rfl rfl ?_
  refine wc_seq ?_
  refine wc_region ?_
  refine reg_quiet rfl (step_C tab_ok (fun K hk => hk)) ?_
  refine reg_nil ?_
  refine seq_n ?_
  refine wc_seq ?_
  refine wc_seq ?_
  refine wc_region ?_
  refine reg_quiet rfl (step_C tab_ok (fun K hk => hk)) ?_
  refine reg_quiet rfl (step_C tab_ok (fun K hk => hk)) ?_
  refine reg_quiet rfl (sub_int tab_ok rfl rfl (wrap_i64 (by omega) (by omega))) ?_
  refine reg_quiet rfl (step_C tab_ok (fun K hk => hk)) ?_
  refine reg_nil ?_
  refine seq_n ?_
  refine wc_cond rfl (fun hb => ?_) (fun hb => ?_)
  refine wc_seq ?_
  refine wc_region ?_
  refine reg_quiet rfl (step_C tab_ok (fun K hk => hk)) ?_
  refine reg_nil ?_
  refine seq_n ?_
  refine wc_ret ?_
  refine seq_r ?_
  rotate_left
  refine wc_skip ?_
  refine seq_n ?_
  refine wc_seq ?_
  refine wc_region ?_
  refine reg_quiet rfl (step_C tab_ok (fun K hk => hk)) ?_
  refine reg_quiet rfl (add_int tab_ok rfl rfl (wrap_i64 (by omega) (by omega))) ?_
  refine reg_quiet rfl (step_C tab_ok (fun K hk => hk)) ?_
  refine reg_nil ?_
  refine seq_n ?_
  refine wc_ret ?_
  rotate_left
  all_goals refine ⟨trivial, [], .of rfl rfl rfl rfl rfl ⟨⟨_, rfl, AVLe.of_eq ?_⟩, rfl, trivial⟩ trivial⟩
  all_goals (simp_all [retOne, AV.ren]; done)
theorem indexFunc_is (k : FuncId) (p : Frame → Bool) (hk : ∀ f, FnIs Try.prog k [.d (encFrame f)] [] (.bool (p f)) []) (l : List Frame) (hlen : l.length ≤ 1000000) :
    FnIs Try.prog 79 [.d (.arr 40 encFrame l), .fn (.func k) .anil .anil] [] (.int .i64 (fidx p l)) [] := by
  refine fnIs_of tab_ok Try.func79 rfl rfl rfl ?_
  refine wc_seq ?_
  refine wc_region ?_
  refine reg_quiet rfl (step_C tab_ok (fun K hk => hk)) ?_
  refine reg_nil ?_
  refine seq_n ?_
  refine wc_seq ?_
  refine wc_seq ?_
  refine wc_region ?_
  refine reg_quiet rfl (step_C tab_ok (fun K hk => hk)) ?_
  refine reg_quiet rfl (len_arr tab_ok rfl rfl) ?_
  refine reg_quiet rfl (step_C tab_ok (fun K hk => hk)) ?_
  refine reg_nil ?_
  refine seq_n ?_
  refine wc_block ?_
  refine wc_inv (fun i : Nat => ⟨[(8, .int .i64 i), (7, .int .i64 l.length), (1, .fn (.func k) .anil .anil), (0, .d (.arr 40 encFrame l))], [], 72, Try.f79.ntmps, 64⟩) (UpTo p l) (fun i => l.length - i) 0 [] (upTo_zero _ _)
    (.of rfl rfl rfl rfl rfl ⟨⟨_, rfl, .refl _⟩, rfl, ⟨_, rfl, .refl _⟩, rfl, ⟨_, rfl, .refl _⟩, rfl, ⟨_, rfl, .refl _⟩, rfl, trivial⟩ trivial) ?_
  intro i hinv
  have hi := hinv.1
  refine wc_of ?_
  refine wc_seq ?_
  refine wc_region ?_
  refine reg_quiet rfl (step_C tab_ok (fun K hk => hk)) ?_
  refine reg_nil ?_
  refine seq_n ?_
  refine wc_seq ?_
  refine wc_cond rfl (fun hb => ?_) (fun hb => ?_)
  · have hlt : i < l.length := by have := of_decide_eq_true hb; omega
    obtain ⟨f, hf⟩ : ∃ f, l[i]? = some f := ⟨_, List.getElem?_eq_getElem hlt⟩
    have hf' : l[((i : Int)).toNat]? = some f := by rw [Int.toNat_natCast]; exact hf
    refine wc_skip ?_
    refine seq_n ?_
    refine wc_seq ?_
    refine wc_block ?_
    refine wc_seq ?_
    refine wc_region ?_
    refine reg_quiet rfl (step_C tab_ok (fun K hk => hk)) ?_
    refine reg_quiet rfl (step_C tab_ok (fun K hk => hk)) ?_
    refine reg_nil ?_
    refine seq_n ?_
    refine wc_seq ?_
    refine wc_region ?_
    refine reg_quiet rfl (step_C tab_ok (fun K hk => hk)) ?_
    refine reg_quiet rfl (step_C tab_ok (fun K hk => hk)) ?_
    refine reg_quiet rfl (step_C tab_ok (fun K hk => hk)) ?_
    refine reg_quiet rfl (index_arr tab_ok rfl rfl rfl rfl rfl (by omega) (by assumption)) ?_
    refine reg_quiet rfl (load_i tab_ok rfl rfl) ?_
    refine reg_quiet rfl (call_r (hk _) rfl rfl (arg_e arg_nil) (.inl rfl) (fun _ => rfl)) ?_
    refine reg_nil ?_
    refine seq_n ?_
    refine wc_cond rfl (fun hu => ?_) (fun hu => ?_)
    · refine wc_seq ?_
      refine wc_region ?_
      refine reg_quiet rfl (step_C tab_ok (fun K hk => hk)) ?_
      refine reg_quiet rfl (step_C tab_ok (fun K hk => hk)) ?_
      refine reg_nil ?_
      refine seq_n ?_
      refine wc_ret ?_
      refine blk_r ?_
      refine seq_r ?_
      refine loop_r ?_
      refine blk_r ?_
      refine seq_r ?_
      refine ⟨trivial, [], .of rfl rfl rfl rfl rfl ⟨⟨_, rfl, AVLe.of_eq ?_⟩, rfl, trivial⟩ trivial⟩
      rw [fidx_hit hinv hf hu]
      rfl
    · refine wc_skip ?_
      refine blk_n ?_
      refine seq_n ?_
      refine wc_region ?_
      refine reg_quiet rfl (add_int tab_ok rfl rfl (wrap_i64 (by omega) (by omega))) ?_
      refine reg_quiet rfl (step_C tab_ok (fun K hk => hk)) ?_
      refine reg_nil ?_
      refine loop_n (i + 1) [] (upTo_succ hinv hf hu) (by omega) ?_
      exact .of rfl rfl rfl rfl rfl ⟨⟨_, rfl, .refl _⟩, rfl, ⟨_, rfl, .refl _⟩, rfl, ⟨_, rfl, .refl _⟩, rfl, ⟨_, rfl, .refl _⟩, rfl, trivial⟩ trivial
  · have he : i = l.length := by have := of_decide_eq_false hb; omega
    refine wc_exit ?_
    refine seq_x ?_
    refine loop_x ?_
    refine blk_x ?_
    refine seq_n ?_
    refine wc_seq ?_
    refine wc_region ?_
    refine reg_quiet rfl (step_C tab_ok (fun K hk => hk)) ?_
    refine reg_nil ?_
    refine seq_n ?_
    refine wc_ret ?_
    refine ⟨trivial, [], .of rfl rfl rfl rfl rfl ⟨⟨_, rfl, AVLe.of_eq ?_⟩, rfl, trivial⟩ trivial⟩
    rw [fidx_miss hinv he]
    rfl
theorem indexFunc1_is (k : FuncId) (p : Frame → Bool) (t : TypeId) (v : Value) (hv : v.oneCell' = true) (hk1 : ∀ f, FnIs Try.prog k [.d (encFrame f), .ptr 0 []] [(0, .box t (.d (.sc v)))] (.bool (p f)) [(0, .box t (.d (.sc v)))]) (l : List Frame) (hlen : l.length ≤ 1000000) :
    FnIs Try.prog 79 [.d (.arr 40 encFrame l), .fn (.func k) .anil (.acons (.ptr 0 []) .anil)] [(0, .box t (.d (.sc v)))] (.int .i64 (fidx p l)) [(0, .box t (.d (.sc v)))] := by
  refine fnIs_of tab_ok Try.func79 rfl rfl rfl ?_
  refine wc_seq ?_
  refine wc_region ?_
  refine reg_quiet rfl (step_C tab_ok (fun K hk => hk)) ?_
  refine reg_nil ?_
  refine seq_n ?_
  refine wc_seq ?_
  refine wc_seq ?_
  refine wc_region ?_
  refine reg_quiet rfl (step_C tab_ok (fun K hk => hk)) ?_
  refine reg_quiet rfl (len_arr tab_ok rfl rfl) ?_
  refine reg_quiet rfl (step_C tab_ok (fun K hk => hk)) ?_
  refine reg_nil ?_
  refine seq_n ?_
  refine wc_block ?_
  refine wc_inv (fun i : Nat => ⟨[(8, .int .i64 i), (7, .int .i64 l.length), (1, .fn (.func k) .anil (.acons (.ptr 0 []) .anil)), (0, .d (.arr 40 encFrame l))], [(0, some (.box t (.d (.sc v))))], 72, Try.f79.ntmps, 64⟩) (UpTo p l) (fun i => l.length - i) 0 [] (upTo_zero _ _)
    (.of rfl rfl rfl rfl rfl ⟨⟨_, rfl, .refl _⟩, rfl, ⟨_, rfl, .refl _⟩, rfl, ⟨_, rfl, .refl _⟩, rfl, ⟨_, rfl, .refl _⟩, rfl, trivial⟩ ⟨⟨rfl, rfl, _, rfl, .refl _⟩, trivial⟩) ?_
  intro i hinv
  have hi := hinv.1
  refine wc_of ?_
  refine wc_seq ?_
  refine wc_region ?_
  refine reg_quiet rfl (step_C tab_ok (fun K hk => hk)) ?_
  refine reg_nil ?_
  refine seq_n ?_
  refine wc_seq ?_
  refine wc_cond rfl (fun hb => ?_) (fun hb => ?_)
  · have hlt : i < l.length := by have := of_decide_eq_true hb; omega
    obtain ⟨f, hf⟩ : ∃ f, l[i]? = some f := ⟨_, List.getElem?_eq_getElem hlt⟩
    have hf' : l[((i : Int)).toNat]? = some f := by rw [Int.toNat_natCast]; exact hf
    refine wc_skip ?_
    refine seq_n ?_
    refine wc_seq ?_
    refine wc_block ?_
    refine wc_seq ?_
    refine wc_region ?_
    refine reg_quiet rfl (step_C tab_ok (fun K hk => hk)) ?_
    refine reg_quiet rfl (step_C tab_ok (fun K hk => hk)) ?_
    refine reg_nil ?_
    refine seq_n ?_
    refine wc_seq ?_
    refine wc_region ?_
    refine reg_quiet rfl (step_C tab_ok (fun K hk => hk)) ?_
    refine reg_quiet rfl (step_C tab_ok (fun K hk => hk)) ?_
    refine reg_quiet rfl (step_C tab_ok (fun K hk => hk)) ?_
    refine reg_quiet rfl (index_arr tab_ok rfl rfl rfl rfl rfl (by omega) (by assumption)) ?_
    refine reg_quiet rfl (load_i tab_ok rfl rfl) ?_
    refine reg_new2 (call_h [] (hk1 _) rfl rfl rfl (arg_e (arg_ptr rfl rfl arg_nil)) ⟨⟨rfl, rfl, _, _, rfl, rfl, .refl _⟩, trivial⟩ rfl rfl (.inl rfl) rfl rfl) rfl ?_
    refine reg_nil ?_
    refine seq_n ?_
    refine wc_cond rfl (fun hu => ?_) (fun hu => ?_)
    · refine wc_seq ?_
      refine wc_region ?_
      refine reg_quiet rfl (step_C tab_ok (fun K hk => hk)) ?_
      refine reg_quiet rfl (step_C tab_ok (fun K hk => hk)) ?_
      refine reg_nil ?_
      refine seq_n ?_
      refine wc_ret ?_
      refine blk_r ?_
      refine seq_r ?_
      refine loop_r ?_
      refine blk_r ?_
      refine seq_r ?_
      refine ⟨trivial, [], .of rfl rfl rfl rfl rfl ⟨⟨_, rfl, AVLe.of_eq ?_⟩, rfl, trivial⟩ ⟨⟨rfl, rfl, _, rfl, .refl _⟩, trivial⟩⟩
      rw [fidx_hit hinv hf hu]
      rfl
    · refine wc_skip ?_
      refine blk_n ?_
      refine seq_n ?_
      refine wc_region ?_
      refine reg_quiet rfl (add_int tab_ok rfl rfl (wrap_i64 (by omega) (by omega))) ?_
      refine reg_quiet rfl (step_C tab_ok (fun K hk => hk)) ?_
      refine reg_nil ?_
      refine loop_n (i + 1) [] (upTo_succ hinv hf hu) (by omega) ?_
      exact .of rfl rfl rfl rfl rfl ⟨⟨_, rfl, .refl _⟩, rfl, ⟨_, rfl, .refl _⟩, rfl, ⟨_, rfl, .refl _⟩, rfl, ⟨_, rfl, .refl _⟩, rfl, trivial⟩ ⟨⟨rfl, rfl, _, rfl, .refl _⟩, trivial⟩
  · have he : i = l.length := by have := of_decide_eq_false hb; omega
    refine wc_exit ?_
    refine seq_x ?_
    refine loop_x ?_
    refine blk_x ?_
    refine seq_n ?_
    refine wc_seq ?_
    refine wc_region ?_
    refine reg_quiet rfl (step_C tab_ok (fun K hk => hk)) ?_
    refine reg_nil ?_
    refine seq_n ?_
    refine wc_ret ?_
    refine ⟨trivial, [], .of rfl rfl rfl rfl rfl ⟨⟨_, rfl, AVLe.of_eq ?_⟩, rfl, trivial⟩ ⟨⟨rfl, rfl, _, rfl, .refl _⟩, trivial⟩⟩
    rw [fidx_miss hinv he]
    rfl
end Go.Proofs.Ytmdfeekpehcieaa

/- Exists, Waiting, Find, Same. -/
namespace Go.Proofs.Ytmdfeekpehcieaa
open Go.Eng
set_option maxHeartbeats 1000000
attribute [local irreducible] WC RegS RegD SeqQ BlkQ ScoQ RegK CutK Sat SatN FnIs LoopQ StepIs OpIs
abbrev tup2 (a b : D) : AV := .tup (.acons (.d a) (.acons (.d b) .anil))
theorem fidx_any {α : Type} (p : α → Bool) (l : List α) : decide (fidx p l ≥ 0) = l.any p := by
  cases h : l.findIdx? p with
  | none =>
    have h1 : l.any p = false := by
      rw [List.any_eq_false]
      intro x hx
      have := List.findIdx?_eq_none_iff.1 h x hx
      simp [this]
    simp [fidx, h, h1]
  | some i =>
    have h1 : l.any p = true := by
      obtain ⟨hi, hp, _⟩ := List.findIdx?_eq_some_iff_getElem.1 h
      exact List.any_eq_true.2 ⟨_, List.getElem_mem hi, hp⟩
    simp [fidx, h, h1]
theorem contains_is (k : FuncId) (p : Frame → Bool) (hk : ∀ f, FnIs Try.prog k [.d (encFrame f)] [] (.bool (p f)) []) (l : List Frame) (hlen : l.length ≤ 1000000) :
    FnIs Try.prog 57 [.d (.arr 40 encFrame l), .fn (.func k) .anil .anil] [] (.bool (l.any p)) [] := by
  refine fnIs_of tab_ok Try.func57 rfl rfl rfl ?_
  refine wc_seq ?_
  refine wc_region ?_
  refine reg_quiet rfl (step_C tab_ok (fun K hk => hk)) ?_
  refine reg_nil ?_
  refine seq_n ?_
  refine wc_seq ?_
  refine wc_region ?_
  refine reg_quiet rfl (step_C tab_ok (fun K hk => hk)) ?_
  refine reg_quiet rfl (step_C tab_ok (fun K hk => hk)) ?_
  refine reg_quiet rfl (call_r (indexFunc_is k p hk l hlen) rfl rfl (arg_e (arg_fn arg_nil)) (.inl rfl) (fun _ => rfl)) ?_
  refine reg_quiet rfl (step_C tab_ok (fun K hk => hk)) ?_
  refine reg_quiet rfl (step_C tab_ok (fun K hk => hk)) ?_
  refine reg_nil ?_
  refine seq_n ?_
  refine wc_ret ?_
  refine ⟨trivial, [], .of rfl rfl rfl rfl rfl ⟨⟨_, rfl, AVLe.of_eq ?_⟩, rfl, trivial⟩ trivial⟩
  simp only [← fidx_any]
  rfl
theorem first_is (k : FuncId) (p : Frame → Bool) (hk : ∀ f, FnIs Try.prog k [.d (encFrame f)] [] (.bool (p f)) []) (l : List Frame) (hlen : l.length ≤ 1000000) :
    FnIs Try.prog 54 [.d (.arr 40 encFrame l), .fn (.func k) .anil .anil] [] (tup2 (i6 (if fidx p l < 0 then 0 else fidx p l)) (bo (l.any p))) [] := by
  refine fnIs_of tab_ok Try.func54 rfl rfl rfl ?_
  refine wc_seq ?_
  refine wc_region ?_
  refine reg_quiet rfl (step_C tab_ok (fun K hk => hk)) ?_
  refine reg_quiet rfl (step_C tab_ok (fun K hk => hk)) ?_
  refine reg_nil ?_
  refine seq_n ?_
  refine wc_seq ?_
  refine wc_seq ?_
  refine wc_region ?_
  refine reg_quiet rfl (step_C tab_ok (fun K hk => hk)) ?_
  refine reg_quiet rfl (step_C tab_ok (fun K hk => hk)) ?_
  refine reg_quiet rfl (call_r (indexFunc_is k p hk l hlen) rfl rfl (arg_e (arg_fn arg_nil)) (.inl rfl) (fun _ => rfl)) ?_
  refine reg_quiet rfl (step_C tab_ok (fun K hk => hk)) ?_
  refine reg_nil ?_
  refine seq_n ?_
  refine wc_seq ?_
  refine wc_region ?_
  refine reg_quiet rfl (step_C tab_ok (fun K hk => hk)) ?_
  refine reg_quiet rfl (step_C tab_ok (fun K hk => hk)) ?_
  refine reg_nil ?_
  refine seq_n ?_
  refine wc_cond rfl (fun hb => ?_) (fun hb => ?_)
  refine wc_seq ?_
  refine wc_region ?_
  refine reg_quiet rfl (step_C tab_ok (fun K hk => hk)) ?_
  refine reg_quiet rfl (step_C tab_ok (fun K hk => hk)) ?_
  refine reg_nil ?_
  refine seq_n ?_
  refine wc_ret ?_
  refine seq_r ?_
  rotate_left
  refine wc_skip ?_
  refine seq_n ?_
  refine wc_seq ?_
  refine wc_region ?_
  refine reg_quiet rfl (step_C tab_ok (fun K hk => hk)) ?_
  refine reg_quiet rfl (step_C tab_ok (fun K hk => hk)) ?_
  refine reg_quiet rfl (step_C tab_ok (fun K hk => hk)) ?_
  refine reg_nil ?_
  refine seq_n ?_
  refine wc_ret ?_
  rotate_left
  · refine ⟨trivial, [], .of rfl rfl rfl rfl rfl ⟨⟨_, rfl, AVLe.of_eq ?_⟩, rfl, trivial⟩ trivial⟩
    rw [if_pos (of_decide_eq_true hb), ← fidx_any, decide_eq_false (by have := of_decide_eq_true hb; omega)]
    rfl
  · refine ⟨trivial, [], .of rfl rfl rfl rfl rfl ⟨⟨_, rfl, AVLe.of_eq ?_⟩, rfl, trivial⟩ trivial⟩
    rw [if_neg (of_decide_eq_false hb), ← fidx_any, decide_eq_true (by have := of_decide_eq_false hb; omega)]
    rfl
theorem first1_is (k : FuncId) (p : Frame → Bool) (t : TypeId) (v : Value) (hv : v.oneCell' = true) (hk1 : ∀ f, FnIs Try.prog k [.d (encFrame f), .ptr 0 []] [(0, .box t (.d (.sc v)))] (.bool (p f)) [(0, .box t (.d (.sc v)))]) (l : List Frame) (hlen : l.length ≤ 1000000) :
    FnIs Try.prog 54 [.d (.arr 40 encFrame l), .fn (.func k) .anil (.acons (.ptr 0 []) .anil)] [(0, .box t (.d (.sc v)))] (tup2 (i6 (if fidx p l < 0 then 0 else fidx p l)) (bo (l.any p))) [(0, .box t (.d (.sc v)))] := by
  refine fnIs_of tab_ok Try.func54 rfl rfl rfl ?_
  refine wc_seq ?_
  refine wc_region ?_
  refine reg_quiet rfl (step_C tab_ok (fun K hk => hk)) ?_
  refine reg_quiet rfl (step_C tab_ok (fun K hk => hk)) ?_
  refine reg_nil ?_
  refine seq_n ?_
  refine wc_seq ?_
  refine wc_seq ?_
  refine wc_region ?_
  refine reg_quiet rfl (step_C tab_ok (fun K hk => hk)) ?_
  refine reg_quiet rfl (step_C tab_ok (fun K hk => hk)) ?_
  refine reg_new2 (call_h [] (indexFunc1_is k p t v hv hk1 l hlen) rfl rfl rfl (arg_e (arg_fn1 rfl rfl arg_nil)) ⟨⟨rfl, rfl, _, _, rfl, rfl, .refl _⟩, trivial⟩ rfl rfl (.inl rfl) rfl rfl) rfl ?_
  refine reg_quiet rfl (step_C tab_ok (fun K hk => hk)) ?_
  refine reg_nil ?_
  refine seq_n ?_
  refine wc_seq ?_
  refine wc_region ?_
  refine reg_quiet rfl (step_C tab_ok (fun K hk => hk)) ?_
  refine reg_quiet rfl (step_C tab_ok (fun K hk => hk)) ?_
  refine reg_nil ?_
  refine seq_n ?_
  refine wc_cond rfl (fun hb => ?_) (fun hb => ?_)
  refine wc_seq ?_
  refine wc_region ?_
  refine reg_quiet rfl (step_C tab_ok (fun K hk => hk)) ?_
  refine reg_quiet rfl (step_C tab_ok (fun K hk => hk)) ?_
  refine reg_nil ?_
  refine seq_n ?_
  refine wc_ret ?_
  refine seq_r ?_
  rotate_left
  refine wc_skip ?_
  refine seq_n ?_
  refine wc_seq ?_
  refine wc_region ?_
  refine reg_quiet rfl (step_C tab_ok (fun K hk => hk)) ?_
  refine reg_quiet rfl (step_C tab_ok (fun K hk => hk)) ?_
  refine reg_quiet rfl (step_C tab_ok (fun K hk => hk)) ?_
  refine reg_nil ?_
  refine seq_n ?_
  refine wc_ret ?_
  rotate_left
  · refine ⟨trivial, [], .of rfl rfl rfl rfl rfl ⟨⟨_, rfl, AVLe.of_eq ?_⟩, rfl, trivial⟩ ⟨⟨rfl, rfl, _, rfl, .refl _⟩, trivial⟩⟩
    rw [if_pos (of_decide_eq_true hb), ← fidx_any, decide_eq_false (by have := of_decide_eq_true hb; omega)]
    rfl
  · refine ⟨trivial, [], .of rfl rfl rfl rfl rfl ⟨⟨_, rfl, AVLe.of_eq ?_⟩, rfl, trivial⟩ ⟨⟨rfl, rfl, _, rfl, .refl _⟩, trivial⟩⟩
    rw [if_neg (of_decide_eq_false hb), ← fidx_any, decide_eq_true (by have := of_decide_eq_false hb; omega)]
    rfl
theorem exists_is (l : List Frame) (hlen : l.length ≤ 1000000) : FnIs Try.prog 17 [.d (.arr 40 encFrame l)] [] (.bool (l.any fun f => !f.used || evB f)) [] := by
  refine fnIs_of tab_ok Try.func17 rfl rfl rfl ?_
  refine wc_seq ?_
  refine wc_region ?_
  refine reg_quiet rfl (step_C tab_ok (fun K hk => hk)) ?_
  refine reg_nil ?_
  refine seq_n ?_
  refine wc_seq ?_
  refine wc_region ?_
  refine reg_quiet rfl (step_C tab_ok (fun K hk => hk)) ?_
  refine reg_quiet rfl (call_r (contains_is 58 _ exists1_is l hlen) rfl rfl (arg_e (arg_fn arg_nil)) (.inl rfl) (fun _ => rfl)) ?_
  refine reg_quiet rfl (step_C tab_ok (fun K hk => hk)) ?_
  refine reg_nil ?_
  refine seq_n ?_
  refine wc_ret ?_
  exact ⟨trivial, [], .of rfl rfl rfl rfl rfl ⟨⟨_, rfl, AVLe.of_eq rfl⟩, rfl, trivial⟩ trivial⟩
def waitI (l : List Frame) : Int := fidx (fun f => f.dirty && !f.busy) l
theorem waiting_is (l : List Frame) (hlen : l.length ≤ 1000000) : FnIs Try.prog 29 [.d (.arr 40 encFrame l)] [] (tup2 (i6 (if fidx (fun f => f.dirty && !f.busy) l < 0 then 0 else fidx (fun f => f.dirty && !f.busy) l)) (bo (l.any fun f => f.dirty && !f.busy))) [] := by
  refine fnIs_of tab_ok Try.func29 rfl rfl rfl ?_
  refine wc_seq ?_
  refine wc_region ?_
  refine reg_quiet rfl (step_C tab_ok (fun K hk => hk)) ?_
  refine reg_quiet rfl (step_C tab_ok (fun K hk => hk)) ?_
  refine reg_nil ?_
  refine seq_n ?_
  refine wc_seq ?_
  refine wc_region ?_
  refine reg_quiet rfl (step_C tab_ok (fun K hk => hk)) ?_
  refine reg_quiet rfl (call_r (first_is 62 _ waiting1_is l hlen) rfl rfl (arg_e (arg_fn arg_nil)) (.inl rfl) (fun _ => rfl)) ?_
  refine reg_quiet rfl (step_C tab_ok (fun K hk => hk)) ?_
  refine reg_quiet rfl (step_C tab_ok (fun K hk => hk)) ?_
  refine reg_quiet rfl (step_C tab_ok (fun K hk => hk)) ?_
  refine reg_quiet rfl (step_C tab_ok (fun K hk => hk)) ?_
  refine reg_nil ?_
  refine seq_n ?_
  refine wc_ret ?_
  exact ⟨trivial, [], .of rfl rfl rfl rfl rfl ⟨⟨_, rfl, AVLe.of_eq rfl⟩, rfl, trivial⟩ trivial⟩
theorem find_is (l : List Frame) (block : Int) (hlen : l.length ≤ 1000000) : FnIs Try.prog 27 [.d (.arr 40 encFrame l), .d (i6 block)] [] (tup2 (i6 (if fidx (fun f => f.used && decide (f.block = block)) l < 0 then 0 else fidx (fun f => f.used && decide (f.block = block)) l)) (bo (l.any fun f => f.used && decide (f.block = block)))) [] := by
  refine fnIs_of tab_ok Try.func27 rfl rfl rfl ?_
  refine wc_seq ?_
  refine wc_region ?_
  refine reg_new (step_C tab_ok (fun K hk => hk)) rfl ?_
  refine reg_quiet rfl (step_C tab_ok (fun K hk => hk)) ?_
  refine reg_quiet rfl (step_C tab_ok (fun K hk => hk)) ?_
  refine reg_nil ?_
  refine seq_n ?_
  refine wc_seq ?_
  refine wc_region ?_
  refine reg_quiet rfl (step_C tab_ok (fun K hk => hk)) ?_
  refine reg_quiet rfl (step_C tab_ok (fun K hk => hk)) ?_
  refine reg_new2 (call_h [(0, some 64)] (first1_is 61 _ 3 _ rfl (find1_is block) l hlen) rfl rfl rfl (arg_e (arg_fn1 rfl rfl arg_nil)) ⟨⟨rfl, rfl, _, _, rfl, rfl, .refl _⟩, trivial⟩ rfl rfl (.inl rfl) rfl rfl) rfl ?_
  refine reg_quiet rfl (step_C tab_ok (fun K hk => hk)) ?_
  refine reg_quiet rfl (step_C tab_ok (fun K hk => hk)) ?_
  refine reg_quiet rfl (step_C tab_ok (fun K hk => hk)) ?_
  refine reg_quiet rfl (step_C tab_ok (fun K hk => hk)) ?_
  refine reg_nil ?_
  refine seq_n ?_
  refine wc_ret ?_
  exact ⟨trivial, [], .of rfl rfl rfl rfl rfl ⟨⟨_, rfl, AVLe.of_eq rfl⟩, rfl, trivial⟩ trivial⟩
def SameTo (a b : List Frame) (i : Nat) : Prop := a.length = b.length ∧ i ≤ a.length ∧ ∀ j : Nat, j < i → a[j]? = b[j]?
theorem same_hit {a b : List Frame} {i : Nat} {f g : Frame} (hf : a[i]? = some f) (hg : b[i]? = some g) (h : f ≠ g) : decide (a = b) = false := by
  refine decide_eq_false fun e => h ?_
  subst e
  rw [hf] at hg
  cases hg
  rfl
theorem same_miss {a b : List Frame} {i : Nat} (h : SameTo a b i) (hi : i = a.length) : decide (a = b) = true := by
  refine decide_eq_true (List.ext_getElem? fun j => ?_)
  rcases Nat.lt_or_ge j i with h1 | h1
  · exact h.2.2 j h1
  · rw [List.getElem?_eq_none (by omega), List.getElem?_eq_none (by have := h.1; omega)]
theorem same_go {a b : List Frame} {i : Nat} {f g : Frame} (h : SameTo a b i) (hf : a[i]? = some f) (hg : b[i]? = some g) (e : f = g) : SameTo a b (i + 1) := by
  refine ⟨h.1, (List.getElem?_eq_some_iff.1 hf).1, fun j hj => ?_⟩
  rcases Nat.lt_or_ge j i with h1 | h1
  · exact h.2.2 j h1
  · have : j = i := by omega
    subst this
    rw [hf, hg, e]
theorem equal_is (a b : List Frame) (ha : a.length ≤ 1000000) (hb : b.length ≤ 1000000) : FnIs Try.prog 63 [.d (.arr 40 encFrame a), .d (.arr 40 encFrame b)] [] (.bool (decide (a = b))) [] := by
  refine fnIs_of tab_ok Try.func63 rfl rfl rfl ?_
  refine wc_seq ?_
  refine wc_region ?_
  refine reg_quiet rfl (step_C tab_ok (fun K hk => hk)) ?_
  refine reg_nil ?_
  refine seq_n ?_
  refine wc_seq ?_
  refine wc_seq ?_
  refine wc_region ?_
  refine reg_quiet rfl (step_C tab_ok (fun K hk => hk)) ?_
  refine reg_quiet rfl (len_arr tab_ok rfl rfl) ?_
  refine reg_quiet rfl (step_C tab_ok (fun K hk => hk)) ?_
  refine reg_quiet rfl (len_arr tab_ok rfl rfl) ?_
  refine reg_quiet rfl (step_C tab_ok (fun K hk => hk)) ?_
  refine reg_nil ?_
  refine seq_n ?_
  refine wc_cond rfl (fun h1 => ?_) (fun h1 => ?_)
  · refine wc_seq ?_
    refine wc_region ?_
    refine reg_quiet rfl (step_C tab_ok (fun K hk => hk)) ?_
    refine reg_nil ?_
    refine seq_n ?_
    refine wc_ret ?_
    refine seq_r ?_
    refine ⟨trivial, [], .of rfl rfl rfl rfl rfl ⟨⟨_, rfl, AVLe.of_eq ?_⟩, rfl, trivial⟩ trivial⟩
    rw [decide_eq_false (fun e : a = b => by subst e; simp at h1)]
    rfl
  · have hl : a.length = b.length := by simp only [Bool.not_eq_eq_eq_not, Bool.not_false, decide_eq_true_eq] at h1; omega
    refine wc_skip ?_
    refine seq_n ?_
    refine wc_seq ?_
    refine wc_seq ?_
    refine wc_region ?_
    refine reg_quiet rfl (step_C tab_ok (fun K hk => hk)) ?_
    refine reg_quiet rfl (len_arr tab_ok rfl rfl) ?_
    refine reg_quiet rfl (step_C tab_ok (fun K hk => hk)) ?_
    refine reg_nil ?_
    refine seq_n ?_
    refine wc_block ?_
    refine wc_inv (fun i : Nat => ⟨[(13, .int .i64 i), (12, .int .i64 a.length), (1, .d (.arr 40 encFrame b)), (0, .d (.arr 40 encFrame a))], [], 72, Try.f63.ntmps, 64⟩) (SameTo a b) (fun i => a.length - i) 0 [] ⟨hl, Nat.zero_le _, fun _ h => absurd h (Nat.not_lt_zero _)⟩
      (.of rfl rfl rfl rfl rfl ⟨⟨_, rfl, .refl _⟩, rfl, ⟨_, rfl, .refl _⟩, rfl, ⟨_, rfl, .refl _⟩, rfl, ⟨_, rfl, .refl _⟩, rfl, trivial⟩ trivial) ?_
    intro i hinv
    have hi := hinv.2.1
    refine wc_of ?_
    refine wc_seq ?_
    refine wc_region ?_
    refine reg_quiet rfl (step_C tab_ok (fun K hk => hk)) ?_
    refine reg_nil ?_
    refine seq_n ?_
    refine wc_seq ?_
    refine wc_cond rfl (fun h2 => ?_) (fun h2 => ?_)
    · have hlt : i < a.length := by have := of_decide_eq_true h2; omega
      obtain ⟨f, hf⟩ : ∃ f, a[i]? = some f := ⟨_, List.getElem?_eq_getElem hlt⟩
      obtain ⟨g, hg⟩ : ∃ g, b[i]? = some g := ⟨_, List.getElem?_eq_getElem (hl ▸ hlt)⟩
      have hf' : a[((i : Int)).toNat]? = some f := by rw [Int.toNat_natCast]; exact hf
      have hg' : b[((i : Int)).toNat]? = some g := by rw [Int.toNat_natCast]; exact hg
      refine wc_skip ?_
      refine seq_n ?_
      refine wc_seq ?_
      refine wc_block ?_
      refine wc_seq ?_
      refine wc_region ?_
      refine reg_quiet rfl (step_C tab_ok (fun K hk => hk)) ?_
      refine reg_quiet rfl (step_C tab_ok (fun K hk => hk)) ?_
      refine reg_nil ?_
      refine seq_n ?_
      refine wc_seq ?_
      refine wc_draw (by kernel_rfl) ?_
      refine dreg_step rfl (step_C tab_ok (fun K hk => hk)) rfl rfl ?_
      refine dreg_step rfl (step_C tab_ok (fun K hk => hk)) rfl rfl ?_
      refine dreg_step rfl (index_arr tab_ok rfl rfl rfl rfl rfl (by omega) (by assumption)) rfl rfl ?_
      refine dreg_step rfl (load_i tab_ok rfl rfl) rfl rfl ?_
      refine dreg_step rfl (step_C tab_ok (fun K hk => hk)) rfl rfl ?_
      refine dreg_step rfl (step_C tab_ok (fun K hk => hk)) rfl rfl ?_
      refine dreg_step rfl (index_arr tab_ok rfl rfl rfl rfl rfl (by omega) (by assumption)) rfl rfl ?_
      refine dreg_step rfl (load_i tab_ok rfl rfl) rfl rfl ?_
      refine dreg_step rfl (neq_data rfl rfl rfl rfl (by kernel_rfl) (by decide) (frame_eq _ _)) rfl rfl ?_
      refine dreg_nil (by kernel_rfl) ?_
      refine seq_n ?_
      refine wc_cond rfl (fun hu => ?_) (fun hu => ?_)
      · refine wc_seq ?_
        refine wc_region ?_
        refine reg_quiet rfl (step_C tab_ok (fun K hk => hk)) ?_
        refine reg_nil ?_
        refine seq_n ?_
        refine wc_ret ?_
        refine blk_r ?_
        refine seq_r ?_
        refine loop_r ?_
        refine blk_r ?_
        refine seq_r ?_
        refine ⟨trivial, [], .of rfl rfl rfl rfl rfl ⟨⟨_, rfl, AVLe.of_eq ?_⟩, rfl, trivial⟩ trivial⟩
        rw [same_hit hf hg (by simpa using hu)]
        rfl
      · refine wc_skip ?_
        refine blk_n ?_
        refine seq_n ?_
        refine wc_region ?_
        refine reg_quiet rfl (add_int tab_ok rfl rfl (wrap_i64 (by omega) (by omega))) ?_
        refine reg_quiet rfl (step_C tab_ok (fun K hk => hk)) ?_
        refine reg_nil ?_
        refine loop_n (i + 1) [] (same_go hinv hf hg (by simpa using hu)) (by omega) ?_
        exact .of rfl rfl rfl rfl rfl ⟨⟨_, rfl, .refl _⟩, rfl, ⟨_, rfl, .refl _⟩, rfl, ⟨_, rfl, .refl _⟩, rfl, ⟨_, rfl, .refl _⟩, rfl, trivial⟩ trivial
    · have he : i = a.length := by have := of_decide_eq_false h2; omega
      refine wc_exit ?_
      refine seq_x ?_
      refine loop_x ?_
      refine blk_x ?_
      refine seq_n ?_
      refine wc_seq ?_
      refine wc_region ?_
      refine reg_quiet rfl (step_C tab_ok (fun K hk => hk)) ?_
      refine reg_nil ?_
      refine seq_n ?_
      refine wc_ret ?_
      refine ⟨trivial, [], .of rfl rfl rfl rfl rfl ⟨⟨_, rfl, AVLe.of_eq ?_⟩, rfl, trivial⟩ trivial⟩
      rw [same_miss hinv he]
      rfl
theorem same_is (a b : List Frame) (ha : a.length ≤ 1000000) (hb : b.length ≤ 1000000) : FnIs Try.prog 31 [.d (.arr 40 encFrame a), .d (.arr 40 encFrame b)] [] (.bool (decide (a = b))) [] := by
  refine fnIs_of tab_ok Try.func31 rfl rfl rfl ?_
  refine wc_seq ?_
  refine wc_region ?_
  refine reg_quiet rfl (step_C tab_ok (fun K hk => hk)) ?_
  refine reg_nil ?_
  refine seq_n ?_
  refine wc_seq ?_
  refine wc_region ?_
  refine reg_quiet rfl (step_C tab_ok (fun K hk => hk)) ?_
  refine reg_quiet rfl (step_C tab_ok (fun K hk => hk)) ?_
  refine reg_quiet rfl (call_r (equal_is a b ha hb) rfl rfl (arg_e (arg_e arg_nil)) (.inl rfl) (fun _ => rfl)) ?_
  refine reg_quiet rfl (step_C tab_ok (fun K hk => hk)) ?_
  refine reg_nil ?_
  refine seq_n ?_
  refine wc_ret ?_
  exact ⟨trivial, [], .of rfl rfl rfl rfl rfl ⟨⟨_, rfl, AVLe.of_eq rfl⟩, rfl, trivial⟩ trivial⟩
theorem refsame_is (a b : List Frame) (ha : a.length ≤ 1000000) (hb : b.length ≤ 1000000) : FnIs Try.prog 20 [.d (.arr 40 encFrame a), .d (.arr 40 encFrame b)] [] (.int .i64 (if decide (a = b) = true then 1 else 0)) [] := by
  refine fnIs_of tab_ok Try.func20 rfl rfl rfl ?_
  refine wc_seq ?_
  refine wc_region ?_
  refine reg_quiet rfl (step_C tab_ok (fun K hk => hk)) ?_
  refine reg_nil ?_
  refine seq_n ?_
  refine wc_seq ?_
  refine wc_seq ?_
  refine wc_region ?_
  refine reg_quiet rfl (step_C tab_ok (fun K hk => hk)) ?_
  refine reg_quiet rfl (len_arr tab_ok rfl rfl) ?_
  refine reg_quiet rfl (step_C tab_ok (fun K hk => hk)) ?_
  refine reg_quiet rfl (len_arr tab_ok rfl rfl) ?_
  refine reg_quiet rfl (step_C tab_ok (fun K hk => hk)) ?_
  refine reg_nil ?_
  refine seq_n ?_
  refine wc_cond rfl (fun h1 => ?_) (fun h1 => ?_)
  · refine wc_seq ?_
    refine wc_region ?_
    refine reg_quiet rfl (step_C tab_ok (fun K hk => hk)) ?_
    refine reg_nil ?_
    refine seq_n ?_
    refine wc_ret ?_
    refine seq_r ?_
    refine ⟨trivial, [], .of rfl rfl rfl rfl rfl ⟨⟨_, rfl, AVLe.of_eq ?_⟩, rfl, trivial⟩ trivial⟩
    rw [decide_eq_false (fun e : a = b => by subst e; simp at h1)]
    rfl
  · have hl : a.length = b.length := by simp only [Bool.not_eq_eq_eq_not, Bool.not_false, decide_eq_true_eq] at h1; omega
    refine wc_skip ?_
    refine seq_n ?_
    refine wc_seq ?_
    refine wc_seq ?_
    refine wc_region ?_
    refine reg_quiet rfl (step_C tab_ok (fun K hk => hk)) ?_
    refine reg_nil ?_
    refine seq_n ?_
    refine wc_block ?_
    refine wc_inv (fun i : Nat => ⟨[(5, .int .i64 i), (1, .d (.arr 40 encFrame b)), (0, .d (.arr 40 encFrame a))], [], 72, Try.f20.ntmps, 64⟩) (SameTo a b) (fun i => a.length - i) 0 [] ⟨hl, Nat.zero_le _, fun _ h => absurd h (Nat.not_lt_zero _)⟩
      (.of rfl rfl rfl rfl rfl ⟨⟨_, rfl, .refl _⟩, rfl, ⟨_, rfl, .refl _⟩, rfl, ⟨_, rfl, .refl _⟩, rfl, trivial⟩ trivial) ?_
    intro i hinv
    have hi := hinv.2.1
    refine wc_of ?_
    refine wc_seq ?_
    refine wc_seq ?_
    refine wc_region ?_
    refine reg_quiet rfl (step_C tab_ok (fun K hk => hk)) ?_
    refine reg_quiet rfl (step_C tab_ok (fun K hk => hk)) ?_
    refine reg_quiet rfl (len_arr tab_ok rfl rfl) ?_
    refine reg_quiet rfl (step_C tab_ok (fun K hk => hk)) ?_
    refine reg_nil ?_
    refine seq_n ?_
    refine wc_cond rfl (fun h2 => ?_) (fun h2 => ?_)
    · have hlt : i < a.length := by have := of_decide_eq_true h2; omega
      obtain ⟨f, hf⟩ : ∃ f, a[i]? = some f := ⟨_, List.getElem?_eq_getElem hlt⟩
      obtain ⟨g, hg⟩ : ∃ g, b[i]? = some g := ⟨_, List.getElem?_eq_getElem (hl ▸ hlt)⟩
      have hf' : a[((i : Int)).toNat]? = some f := by rw [Int.toNat_natCast]; exact hf
      have hg' : b[((i : Int)).toNat]? = some g := by rw [Int.toNat_natCast]; exact hg
      refine wc_skip ?_
      refine seq_n ?_
      refine wc_seq ?_
      refine wc_block ?_
      refine wc_seq ?_
      refine wc_draw (by kernel_rfl) ?_
      refine dreg_step rfl (step_C tab_ok (fun K hk => hk)) rfl rfl ?_
      refine dreg_step rfl (step_C tab_ok (fun K hk => hk)) rfl rfl ?_
      refine dreg_step rfl (index_arr tab_ok rfl rfl rfl rfl rfl (by omega) (by assumption)) rfl rfl ?_
      refine dreg_step rfl (load_i tab_ok rfl rfl) rfl rfl ?_
      refine dreg_step rfl (step_C tab_ok (fun K hk => hk)) rfl rfl ?_
      refine dreg_step rfl (step_C tab_ok (fun K hk => hk)) rfl rfl ?_
      refine dreg_step rfl (index_arr tab_ok rfl rfl rfl rfl rfl (by omega) (by assumption)) rfl rfl ?_
      refine dreg_step rfl (load_i tab_ok rfl rfl) rfl rfl ?_
      refine dreg_step rfl (neq_data rfl rfl rfl rfl (by kernel_rfl) (by decide) (frame_eq _ _)) rfl rfl ?_
      refine dreg_nil (by kernel_rfl) ?_
      refine seq_n ?_
      refine wc_cond rfl (fun hu => ?_) (fun hu => ?_)
      · refine wc_seq ?_
        refine wc_region ?_
        refine reg_quiet rfl (step_C tab_ok (fun K hk => hk)) ?_
        refine reg_nil ?_
        refine seq_n ?_
        refine wc_ret ?_
        refine blk_r ?_
        refine seq_r ?_
        refine loop_r ?_
        refine blk_r ?_
        refine seq_r ?_
        refine ⟨trivial, [], .of rfl rfl rfl rfl rfl ⟨⟨_, rfl, AVLe.of_eq ?_⟩, rfl, trivial⟩ trivial⟩
        rw [same_hit hf hg (by simpa using hu)]
        rfl
      · refine wc_skip ?_
        refine blk_n ?_
        refine seq_n ?_
        refine wc_region ?_
        refine reg_quiet rfl (step_C tab_ok (fun K hk => hk)) ?_
        refine reg_quiet rfl (add_int tab_ok rfl rfl (wrap_i64 (by omega) (by omega))) ?_
        refine reg_quiet rfl (step_C tab_ok (fun K hk => hk)) ?_
        refine reg_nil ?_
        refine loop_n (i + 1) [] (same_go hinv hf hg (by simpa using hu)) (by omega) ?_
        exact .of rfl rfl rfl rfl rfl ⟨⟨_, rfl, .refl _⟩, rfl, ⟨_, rfl, .refl _⟩, rfl, ⟨_, rfl, .refl _⟩, rfl, trivial⟩ trivial
    · have he : i = a.length := by have := of_decide_eq_false h2; omega
      refine wc_exit ?_
      refine seq_x ?_
      refine loop_x ?_
      refine blk_x ?_
      refine seq_n ?_
      refine wc_seq ?_
      refine wc_region ?_
      refine reg_quiet rfl (step_C tab_ok (fun K hk => hk)) ?_
      refine reg_nil ?_
      refine seq_n ?_
      refine wc_ret ?_
      refine ⟨trivial, [], .of rfl rfl rfl rfl rfl ⟨⟨_, rfl, AVLe.of_eq ?_⟩, rfl, trivial⟩ trivial⟩
      rw [same_miss hinv he]
      rfl
end Go.Proofs.Ytmdfeekpehcieaa
