/- Disks: versions, New, with. -/
import Derived.Test.YtfmemklkkmiicaaEngD
import Derived.Test.YtfmemklkkmiicaaChecked
import Derived.Test.YtfmemklkkmiicaaEngB
import Derived.KernelRfl

set_option linter.unusedVariables false
set_option linter.unusedSimpArgs false

/- Disks: their data. -/
namespace Go.Proofs.Ytfmemklkkmiicaa
open Go.Eng
abbrev i6 (n : Int) : D := .sc (.int .i64 n)
abbrev u8s (n : Int) : D := .sc (.int .u8 n)
abbrev bo (b : Bool) : D := .sc (.bool b)
/-- A content of a sector. -/
structure Ver where
  there : Bool
  b : List Int
deriving DecidableEq
/-- The contents of a sector, the newest first. -/
abbrev Vs := List Ver
def encVer : Vs → D
  | [] => .sc nilp
  | v :: l => .pt (.cons (bo v.there) (.cons (.arr 1 encU8 v.b) (.cons (i6 ((l.length : Int) + 1)) (.cons (encVer l) .nil))))
/-- A chunk, or nil. -/
def encC : Option (List Vs) → D
  | none => .sc nilp
  | some c => .pt (.vec 64 1 encVer c)
structure Dk where
  n : Int
  ch : Int
  cs : List (List Vs)
def encDk (d : Dk) : D := .cons (i6 d.n) (.cons (i6 d.ch) (.cons (.arr 1 encC (d.cs.map some)) .nil))
def zeroDk : D := .cons (i6 0) (.cons (i6 0) (.cons (.sc nil_) .nil))
/-- A content, by definition. -/
def encV (v : Ver) : D := .cons (bo v.there) (.cons (.sc (.string (strOf v.b))) .nil)
def encVs (l : Vs) : D := .arr 2 encV l
def encRD (l : List Vs) : D := .cons (.arr 1 encVs l) .nil
structure Opr where
  kind : Int
  sector : Int
  back : Int
  bytes : List Int
def encOpr (o : Opr) : D := .cons (u8s o.kind) (.cons (u8s o.sector) (.cons (u8s o.back) (.cons (.arr 1 encU8 o.bytes) .nil)))
def encX (x : Int × List Opr) : D := .cons (u8s x.1) (.cons (.arr 4 encOpr x.2) .nil)
end Go.Proofs.Ytfmemklkkmiicaa

/- The table of types that the walks use: each row is checked against the loaded program. By a small program (gen_tab.py). -/
namespace Go.Proofs.Ytfmemklkkmiicaa
open Go.Eng
-- 1: func()
abbrev r1 : TyR := { desc := .cell, size := 1, bytes := 8, zero := .sc .nilFunc }
theorem ty1 : TyOk Try.prog 1 r1 := TyOk.mk' (by kernel_rfl) (by kernel_rfl) Try.underlying1 (by kernel_rfl) (by kernel_rfl)
-- 2: int64
abbrev r2 : TyR := { desc := .int .i64, size := 1, bytes := 8, zero := .sc (.int .i64 0) }
theorem ty2 : TyOk Try.prog 2 r2 := TyOk.mk' (by kernel_rfl) (by kernel_rfl) Try.underlying2 (by kernel_rfl) (by kernel_rfl)
-- 3: int
abbrev r3 : TyR := { desc := .int .i64, size := 1, bytes := 8, zero := .sc (.int .i64 0) }
theorem ty3 : TyOk Try.prog 3 r3 := TyOk.mk' (by kernel_rfl) (by kernel_rfl) Try.underlying3 (by kernel_rfl) (by kernel_rfl)
-- 4: bool
abbrev r4 : TyR := { desc := .bool, size := 1, bytes := 1, zero := .sc (.bool false) }
theorem ty4 : TyOk Try.prog 4 r4 := TyOk.mk' (by kernel_rfl) (by kernel_rfl) Try.underlying4 (by kernel_rfl) (by kernel_rfl)
-- 5: uint8
abbrev r5 : TyR := { desc := .int .u8, size := 1, bytes := 1, zero := .sc (.int .u8 0) }
theorem ty5 : TyOk Try.prog 5 r5 := TyOk.mk' (by kernel_rfl) (by kernel_rfl) Try.underlying5 (by kernel_rfl) (by kernel_rfl)
-- 9: string
abbrev r9 : TyR := { desc := .string, size := 1, bytes := 16, zero := .sc (.string ⟨#[]⟩) }
theorem ty9 : TyOk Try.prog 9 r9 := TyOk.mk' (by kernel_rfl) (by kernel_rfl) Try.underlying9 (by kernel_rfl) (by kernel_rfl)
-- 12: uintptr
abbrev r12 : TyR := { desc := .int .u64, size := 1, bytes := 8, zero := .sc (.int .u64 0) }
theorem ty12 : TyOk Try.prog 12 r12 := TyOk.mk' (by kernel_rfl) (by kernel_rfl) Try.underlying12 (by kernel_rfl) (by kernel_rfl)
-- 13: struct ( msg string; addr uintptr )
abbrev r13 : TyR := { desc := .struct [(0, 9), (1, 12)], size := 2, bytes := 24, zero := .cons (.sc (.string ⟨#[]⟩)) (.cons (.sc (.int .u64 0)) (.nil)) }
theorem ty13 : TyOk Try.prog 13 r13 := TyOk.mk' (by kernel_rfl) (by kernel_rfl) Try.underlying13 (by kernel_rfl) (by kernel_rfl)
-- 20: interface ()
abbrev r20 : TyR := { desc := .cell, size := 1, bytes := 16, zero := .sc .nilIface }
theorem ty20 : TyOk Try.prog 20 r20 := TyOk.mk' (by kernel_rfl) (by kernel_rfl) Try.underlying20 (by kernel_rfl) (by kernel_rfl)
-- 21: int32
abbrev r21 : TyR := { desc := .int .i32, size := 1, bytes := 4, zero := .sc (.int .i32 0) }
theorem ty21 : TyOk Try.prog 21 r21 := TyOk.mk' (by kernel_rfl) (by kernel_rfl) Try.underlying21 (by kernel_rfl) (by kernel_rfl)
-- 22: []caissonlaw14.Op
abbrev r22 : TyR := { desc := .slice 39, size := 1, bytes := 24, zero := .sc (.slice none 0 0) }
theorem ty22 : TyOk Try.prog 22 r22 := TyOk.mk' (by kernel_rfl) (by kernel_rfl) Try.underlying22 (by kernel_rfl) (by kernel_rfl)
-- 23: struct ( Size uint8; Ops []caissonlaw14.Op )
abbrev r23 : TyR := { desc := .struct [(0, 5), (1, 22)], size := 2, bytes := 32, zero := .cons (.sc (.int .u8 0)) (.cons (.sc (.slice none 0 0)) (.nil)) }
theorem ty23 : TyOk Try.prog 23 r23 := TyOk.mk' (by kernel_rfl) (by kernel_rfl) Try.underlying23 (by kernel_rfl) (by kernel_rfl)
-- 24: caissonlaw14.D
abbrev r24 : TyR := { desc := .struct [(0, 5), (1, 22)], size := 2, bytes := 32, zero := .cons (.sc (.int .u8 0)) (.cons (.sc (.slice none 0 0)) (.nil)) }
theorem ty24 : TyOk Try.prog 24 r24 := TyOk.mk' (by kernel_rfl) (by kernel_rfl) Try.underlying24 (by kernel_rfl) (by kernel_rfl)
-- 25: []*disks.chunk
abbrev r25 : TyR := { desc := .slice 71, size := 1, bytes := 24, zero := .sc (.slice none 0 0) }
theorem ty25 : TyOk Try.prog 25 r25 := TyOk.mk' (by kernel_rfl) (by kernel_rfl) Try.underlying25 (by kernel_rfl) (by kernel_rfl)
-- 26: struct ( size int; changes int; chunks []*disks.chunk )
abbrev r26 : TyR := { desc := .struct [(0, 3), (1, 3), (2, 25)], size := 3, bytes := 40, zero := .cons (.sc (.int .i64 0)) (.cons (.sc (.int .i64 0)) (.cons (.sc (.slice none 0 0)) (.nil))) }
theorem ty26 : TyOk Try.prog 26 r26 := TyOk.mk' (by kernel_rfl) (by kernel_rfl) Try.underlying26 (by kernel_rfl) (by kernel_rfl)
-- 27: disks.Disk
abbrev r27 : TyR := { desc := .struct [(0, 3), (1, 3), (2, 25)], size := 3, bytes := 40, zero := .cons (.sc (.int .i64 0)) (.cons (.sc (.int .i64 0)) (.cons (.sc (.slice none 0 0)) (.nil))) }
theorem ty27 : TyOk Try.prog 27 r27 := TyOk.mk' (by kernel_rfl) (by kernel_rfl) Try.underlying27 (by kernel_rfl) (by kernel_rfl)
-- 28: api.Errno
abbrev r28 : TyR := { desc := .int .i64, size := 1, bytes := 8, zero := .sc (.int .i64 0) }
theorem ty28 : TyOk Try.prog 28 r28 := TyOk.mk' (by kernel_rfl) (by kernel_rfl) Try.underlying28 (by kernel_rfl) (by kernel_rfl)
-- 30: func(int) (disks.Disk, api.Errno)
abbrev r30 : TyR := { desc := .cell, size := 1, bytes := 8, zero := .sc .nilFunc }
theorem ty30 : TyOk Try.prog 30 r30 := TyOk.mk' (by kernel_rfl) (by kernel_rfl) Try.underlying30 (by kernel_rfl) (by kernel_rfl)
-- 31: func() int
abbrev r31 : TyR := { desc := .cell, size := 1, bytes := 8, zero := .sc .nilFunc }
theorem ty31 : TyOk Try.prog 31 r31 := TyOk.mk' (by kernel_rfl) (by kernel_rfl) Try.underlying31 (by kernel_rfl) (by kernel_rfl)
-- 32: [][]caissonref14.V
abbrev r32 : TyR := { desc := .slice 61, size := 1, bytes := 24, zero := .sc (.slice none 0 0) }
theorem ty32 : TyOk Try.prog 32 r32 := TyOk.mk' (by kernel_rfl) (by kernel_rfl) Try.underlying32 (by kernel_rfl) (by kernel_rfl)
-- 33: struct ( L [][]caissonref14.V )
abbrev r33 : TyR := { desc := .struct [(0, 32)], size := 1, bytes := 24, zero := .cons (.sc (.slice none 0 0)) (.nil) }
theorem ty33 : TyOk Try.prog 33 r33 := TyOk.mk' (by kernel_rfl) (by kernel_rfl) Try.underlying33 (by kernel_rfl) (by kernel_rfl)
-- 34: caissonref14.D
abbrev r34 : TyR := { desc := .struct [(0, 32)], size := 1, bytes := 24, zero := .cons (.sc (.slice none 0 0)) (.nil) }
theorem ty34 : TyOk Try.prog 34 r34 := TyOk.mk' (by kernel_rfl) (by kernel_rfl) Try.underlying34 (by kernel_rfl) (by kernel_rfl)
-- 35: func(int) caissonref14.D
abbrev r35 : TyR := { desc := .cell, size := 1, bytes := 8, zero := .sc .nilFunc }
theorem ty35 : TyOk Try.prog 35 r35 := TyOk.mk' (by kernel_rfl) (by kernel_rfl) Try.underlying35 (by kernel_rfl) (by kernel_rfl)
-- 36: func(disks.Disk, caissonref14.D) int
abbrev r36 : TyR := { desc := .cell, size := 1, bytes := 8, zero := .sc .nilFunc }
theorem ty36 : TyOk Try.prog 36 r36 := TyOk.mk' (by kernel_rfl) (by kernel_rfl) Try.underlying36 (by kernel_rfl) (by kernel_rfl)
-- 37: []uint8
abbrev r37 : TyR := { desc := .slice 5, size := 1, bytes := 24, zero := .sc (.slice none 0 0) }
theorem ty37 : TyOk Try.prog 37 r37 := TyOk.mk' (by kernel_rfl) (by kernel_rfl) Try.underlying37 (by kernel_rfl) (by kernel_rfl)
-- 38: struct ( Kind uint8; Sector uint8; Back uint8; Bytes []uint8 )
abbrev r38 : TyR := { desc := .struct [(0, 5), (1, 5), (2, 5), (3, 37)], size := 4, bytes := 32, zero := .cons (.sc (.int .u8 0)) (.cons (.sc (.int .u8 0)) (.cons (.sc (.int .u8 0)) (.cons (.sc (.slice none 0 0)) (.nil)))) }
theorem ty38 : TyOk Try.prog 38 r38 := TyOk.mk' (by kernel_rfl) (by kernel_rfl) Try.underlying38 (by kernel_rfl) (by kernel_rfl)
-- 39: caissonlaw14.Op
abbrev r39 : TyR := { desc := .struct [(0, 5), (1, 5), (2, 5), (3, 37)], size := 4, bytes := 32, zero := .cons (.sc (.int .u8 0)) (.cons (.sc (.int .u8 0)) (.cons (.sc (.int .u8 0)) (.cons (.sc (.slice none 0 0)) (.nil)))) }
theorem ty39 : TyOk Try.prog 39 r39 := TyOk.mk' (by kernel_rfl) (by kernel_rfl) Try.underlying39 (by kernel_rfl) (by kernel_rfl)
-- 40: func(disks.Disk, int) (disks.Disk, api.Errno)
abbrev r40 : TyR := { desc := .cell, size := 1, bytes := 8, zero := .sc .nilFunc }
theorem ty40 : TyOk Try.prog 40 r40 := TyOk.mk' (by kernel_rfl) (by kernel_rfl) Try.underlying40 (by kernel_rfl) (by kernel_rfl)
-- 42: func(caissonref14.D) (caissonref14.D, api.Errno)
abbrev r42 : TyR := { desc := .cell, size := 1, bytes := 8, zero := .sc .nilFunc }
theorem ty42 : TyOk Try.prog 42 r42 := TyOk.mk' (by kernel_rfl) (by kernel_rfl) Try.underlying42 (by kernel_rfl) (by kernel_rfl)
-- 43: func() bool
abbrev r43 : TyR := { desc := .cell, size := 1, bytes := 8, zero := .sc .nilFunc }
theorem ty43 : TyOk Try.prog 43 r43 := TyOk.mk' (by kernel_rfl) (by kernel_rfl) Try.underlying43 (by kernel_rfl) (by kernel_rfl)
-- 44: func(caissonlaw14.D) bool
abbrev r44 : TyR := { desc := .cell, size := 1, bytes := 8, zero := .sc .nilFunc }
theorem ty44 : TyOk Try.prog 44 r44 := TyOk.mk' (by kernel_rfl) (by kernel_rfl) Try.underlying44 (by kernel_rfl) (by kernel_rfl)
-- 45: func() disks.Disk
abbrev r45 : TyR := { desc := .cell, size := 1, bytes := 8, zero := .sc .nilFunc }
theorem ty45 : TyOk Try.prog 45 r45 := TyOk.mk' (by kernel_rfl) (by kernel_rfl) Try.underlying45 (by kernel_rfl) (by kernel_rfl)
-- 46: func() caissonref14.D
abbrev r46 : TyR := { desc := .cell, size := 1, bytes := 8, zero := .sc .nilFunc }
theorem ty46 : TyOk Try.prog 46 r46 := TyOk.mk' (by kernel_rfl) (by kernel_rfl) Try.underlying46 (by kernel_rfl) (by kernel_rfl)
-- 48: func(int) ([]uint8, api.Errno)
abbrev r48 : TyR := { desc := .cell, size := 1, bytes := 8, zero := .sc .nilFunc }
theorem ty48 : TyOk Try.prog 48 r48 := TyOk.mk' (by kernel_rfl) (by kernel_rfl) Try.underlying48 (by kernel_rfl) (by kernel_rfl)
-- 49: func([]uint8, api.Errno, caissonref14.V) int
abbrev r49 : TyR := { desc := .cell, size := 1, bytes := 8, zero := .sc .nilFunc }
theorem ty49 : TyOk Try.prog 49 r49 := TyOk.mk' (by kernel_rfl) (by kernel_rfl) Try.underlying49 (by kernel_rfl) (by kernel_rfl)
-- 50: struct ( There bool; B string )
abbrev r50 : TyR := { desc := .struct [(0, 4), (1, 9)], size := 2, bytes := 24, zero := .cons (.sc (.bool false)) (.cons (.sc (.string ⟨#[]⟩)) (.nil)) }
theorem ty50 : TyOk Try.prog 50 r50 := TyOk.mk' (by kernel_rfl) (by kernel_rfl) Try.underlying50 (by kernel_rfl) (by kernel_rfl)
-- 51: caissonref14.V
abbrev r51 : TyR := { desc := .struct [(0, 4), (1, 9)], size := 2, bytes := 24, zero := .cons (.sc (.bool false)) (.cons (.sc (.string ⟨#[]⟩)) (.nil)) }
theorem ty51 : TyOk Try.prog 51 r51 := TyOk.mk' (by kernel_rfl) (by kernel_rfl) Try.underlying51 (by kernel_rfl) (by kernel_rfl)
-- 52: func(caissonref14.D, int) caissonref14.V
abbrev r52 : TyR := { desc := .cell, size := 1, bytes := 8, zero := .sc .nilFunc }
theorem ty52 : TyOk Try.prog 52 r52 := TyOk.mk' (by kernel_rfl) (by kernel_rfl) Try.underlying52 (by kernel_rfl) (by kernel_rfl)
-- 53: func(caissonlaw14.D, caissonlaw14.Op, caissonlaw14.Op) bool
abbrev r53 : TyR := { desc := .cell, size := 1, bytes := 8, zero := .sc .nilFunc }
theorem ty53 : TyOk Try.prog 53 r53 := TyOk.mk' (by kernel_rfl) (by kernel_rfl) Try.underlying53 (by kernel_rfl) (by kernel_rfl)
-- 54: [2]int
abbrev r54 : TyR := { desc := .array 2 3, size := 2, bytes := 16, zero := .cons (.sc (.int .i64 0)) (.cons (.sc (.int .i64 0)) (.nil)) }
theorem ty54 : TyOk Try.prog 54 r54 := TyOk.mk' (by kernel_rfl) (by kernel_rfl) Try.underlying54 (by kernel_rfl) (by kernel_rfl)
-- 55: uint16
abbrev r55 : TyR := { desc := .int .u16, size := 1, bytes := 2, zero := .sc (.int .u16 0) }
theorem ty55 : TyOk Try.prog 55 r55 := TyOk.mk' (by kernel_rfl) (by kernel_rfl) Try.underlying55 (by kernel_rfl) (by kernel_rfl)
-- 56: func(int, []uint8) (disks.Disk, api.Errno)
abbrev r56 : TyR := { desc := .cell, size := 1, bytes := 8, zero := .sc .nilFunc }
theorem ty56 : TyOk Try.prog 56 r56 := TyOk.mk' (by kernel_rfl) (by kernel_rfl) Try.underlying56 (by kernel_rfl) (by kernel_rfl)
-- 58: func(int) (int, api.Errno)
abbrev r58 : TyR := { desc := .cell, size := 1, bytes := 8, zero := .sc .nilFunc }
theorem ty58 : TyOk Try.prog 58 r58 := TyOk.mk' (by kernel_rfl) (by kernel_rfl) Try.underlying58 (by kernel_rfl) (by kernel_rfl)
-- 59: func(int, int) ([]uint8, api.Errno)
abbrev r59 : TyR := { desc := .cell, size := 1, bytes := 8, zero := .sc .nilFunc }
theorem ty59 : TyOk Try.prog 59 r59 := TyOk.mk' (by kernel_rfl) (by kernel_rfl) Try.underlying59 (by kernel_rfl) (by kernel_rfl)
-- 60: func(int, int) (disks.Disk, api.Errno)
abbrev r60 : TyR := { desc := .cell, size := 1, bytes := 8, zero := .sc .nilFunc }
theorem ty60 : TyOk Try.prog 60 r60 := TyOk.mk' (by kernel_rfl) (by kernel_rfl) Try.underlying60 (by kernel_rfl) (by kernel_rfl)
-- 61: []caissonref14.V
abbrev r61 : TyR := { desc := .slice 51, size := 1, bytes := 24, zero := .sc (.slice none 0 0) }
theorem ty61 : TyOk Try.prog 61 r61 := TyOk.mk' (by kernel_rfl) (by kernel_rfl) Try.underlying61 (by kernel_rfl) (by kernel_rfl)
-- 62: func(caissonlaw14.D, [2]int, uint16) bool
abbrev r62 : TyR := { desc := .cell, size := 1, bytes := 8, zero := .sc .nilFunc }
theorem ty62 : TyOk Try.prog 62 r62 := TyOk.mk' (by kernel_rfl) (by kernel_rfl) Try.underlying62 (by kernel_rfl) (by kernel_rfl)
-- 63: func(caissonlaw14.D, caissonlaw14.Op, uint8) bool
abbrev r63 : TyR := { desc := .cell, size := 1, bytes := 8, zero := .sc .nilFunc }
theorem ty63 : TyOk Try.prog 63 r63 := TyOk.mk' (by kernel_rfl) (by kernel_rfl) Try.underlying63 (by kernel_rfl) (by kernel_rfl)
-- 64: func(caissonref14.D, caissonref14.D) bool
abbrev r64 : TyR := { desc := .cell, size := 1, bytes := 8, zero := .sc .nilFunc }
theorem ty64 : TyOk Try.prog 64 r64 := TyOk.mk' (by kernel_rfl) (by kernel_rfl) Try.underlying64 (by kernel_rfl) (by kernel_rfl)
-- 65: func(disks.Disk, disks.Disk) bool
abbrev r65 : TyR := { desc := .cell, size := 1, bytes := 8, zero := .sc .nilFunc }
theorem ty65 : TyOk Try.prog 65 r65 := TyOk.mk' (by kernel_rfl) (by kernel_rfl) Try.underlying65 (by kernel_rfl) (by kernel_rfl)
-- 66: func(caissonlaw14.D, caissonlaw14.D) bool
abbrev r66 : TyR := { desc := .cell, size := 1, bytes := 8, zero := .sc .nilFunc }
theorem ty66 : TyOk Try.prog 66 r66 := TyOk.mk' (by kernel_rfl) (by kernel_rfl) Try.underlying66 (by kernel_rfl) (by kernel_rfl)
-- 67: []int
abbrev r67 : TyR := { desc := .slice 3, size := 1, bytes := 24, zero := .sc (.slice none 0 0) }
theorem ty67 : TyOk Try.prog 67 r67 := TyOk.mk' (by kernel_rfl) (by kernel_rfl) Try.underlying67 (by kernel_rfl) (by kernel_rfl)
-- 68: func() []int
abbrev r68 : TyR := { desc := .cell, size := 1, bytes := 8, zero := .sc .nilFunc }
theorem ty68 : TyOk Try.prog 68 r68 := TyOk.mk' (by kernel_rfl) (by kernel_rfl) Try.underlying68 (by kernel_rfl) (by kernel_rfl)
-- 69: uint
abbrev r69 : TyR := { desc := .int .u64, size := 1, bytes := 8, zero := .sc (.int .u64 0) }
theorem ty69 : TyOk Try.prog 69 r69 := TyOk.mk' (by kernel_rfl) (by kernel_rfl) Try.underlying69 (by kernel_rfl) (by kernel_rfl)
-- 70: func([]*disks.chunk, int) []*disks.chunk
abbrev r70 : TyR := { desc := .cell, size := 1, bytes := 8, zero := .sc .nilFunc }
theorem ty70 : TyOk Try.prog 70 r70 := TyOk.mk' (by kernel_rfl) (by kernel_rfl) Try.underlying70 (by kernel_rfl) (by kernel_rfl)
-- 71: *disks.chunk
abbrev r71 : TyR := { desc := .cell, size := 1, bytes := 8, zero := .sc (.pointer none) }
theorem ty71 : TyOk Try.prog 71 r71 := TyOk.mk' (by kernel_rfl) (by kernel_rfl) Try.underlying71 (by kernel_rfl) (by kernel_rfl)
-- 72: *disks.version
abbrev r72 : TyR := { desc := .cell, size := 1, bytes := 8, zero := .sc (.pointer none) }
theorem ty72 : TyOk Try.prog 72 r72 := TyOk.mk' (by kernel_rfl) (by kernel_rfl) Try.underlying72 (by kernel_rfl) (by kernel_rfl)
-- 73: [64]*disks.version
abbrev r73 : TyR := { desc := .array 64 72, size := 64, bytes := 512, zero := .vec 64 1 encVer (List.replicate 64 []) }
theorem ty73 : TyOk Try.prog 73 r73 := TyOk.mk' (by kernel_rfl) (by kernel_rfl) Try.underlying73 (by kernel_rfl) (by kernel_rfl)
-- 74: disks.chunk
abbrev r74 : TyR := { desc := .array 64 72, size := 64, bytes := 512, zero := .vec 64 1 encVer (List.replicate 64 []) }
theorem ty74 : TyOk Try.prog 74 r74 := TyOk.mk' (by kernel_rfl) (by kernel_rfl) Try.underlying74 (by kernel_rfl) (by kernel_rfl)
-- 75: func(caissonref14.D, int, caissonref14.V) caissonref14.D
abbrev r75 : TyR := { desc := .cell, size := 1, bytes := 8, zero := .sc .nilFunc }
theorem ty75 : TyOk Try.prog 75 r75 := TyOk.mk' (by kernel_rfl) (by kernel_rfl) Try.underlying75 (by kernel_rfl) (by kernel_rfl)
-- 77: func(caissonref14.D, int, int) (caissonref14.V, bool)
abbrev r77 : TyR := { desc := .cell, size := 1, bytes := 8, zero := .sc .nilFunc }
theorem ty77 : TyOk Try.prog 77 r77 := TyOk.mk' (by kernel_rfl) (by kernel_rfl) Try.underlying77 (by kernel_rfl) (by kernel_rfl)
-- 79: func(int) (*disks.version, api.Errno)
abbrev r79 : TyR := { desc := .cell, size := 1, bytes := 8, zero := .sc .nilFunc }
theorem ty79 : TyOk Try.prog 79 r79 := TyOk.mk' (by kernel_rfl) (by kernel_rfl) Try.underlying79 (by kernel_rfl) (by kernel_rfl)
-- 80: func() ([]uint8, api.Errno)
abbrev r80 : TyR := { desc := .cell, size := 1, bytes := 8, zero := .sc .nilFunc }
theorem ty80 : TyOk Try.prog 80 r80 := TyOk.mk' (by kernel_rfl) (by kernel_rfl) Try.underlying80 (by kernel_rfl) (by kernel_rfl)
-- 81: func(int, bool, []uint8) disks.Disk
abbrev r81 : TyR := { desc := .cell, size := 1, bytes := 8, zero := .sc .nilFunc }
theorem ty81 : TyOk Try.prog 81 r81 := TyOk.mk' (by kernel_rfl) (by kernel_rfl) Try.underlying81 (by kernel_rfl) (by kernel_rfl)
-- 82: func([]uint8) []uint8
abbrev r82 : TyR := { desc := .cell, size := 1, bytes := 8, zero := .sc .nilFunc }
theorem ty82 : TyOk Try.prog 82 r82 := TyOk.mk' (by kernel_rfl) (by kernel_rfl) Try.underlying82 (by kernel_rfl) (by kernel_rfl)
-- 83: func(int) *disks.version
abbrev r83 : TyR := { desc := .cell, size := 1, bytes := 8, zero := .sc .nilFunc }
theorem ty83 : TyOk Try.prog 83 r83 := TyOk.mk' (by kernel_rfl) (by kernel_rfl) Try.underlying83 (by kernel_rfl) (by kernel_rfl)
-- 84: struct ( there bool; b []uint8; number int; before *disks.version )
abbrev r84 : TyR := { desc := .struct [(0, 4), (1, 37), (2, 3), (3, 72)], size := 4, bytes := 48, zero := .cons (.sc (.bool false)) (.cons (.sc (.slice none 0 0)) (.cons (.sc (.int .i64 0)) (.cons (.sc (.pointer none)) (.nil)))) }
theorem ty84 : TyOk Try.prog 84 r84 := TyOk.mk' (by kernel_rfl) (by kernel_rfl) Try.underlying84 (by kernel_rfl) (by kernel_rfl)
-- 85: disks.version
abbrev r85 : TyR := { desc := .struct [(0, 4), (1, 37), (2, 3), (3, 72)], size := 4, bytes := 48, zero := .cons (.sc (.bool false)) (.cons (.sc (.slice none 0 0)) (.cons (.sc (.int .i64 0)) (.cons (.sc (.pointer none)) (.nil)))) }
theorem ty85 : TyOk Try.prog 85 r85 := TyOk.mk' (by kernel_rfl) (by kernel_rfl) Try.underlying85 (by kernel_rfl) (by kernel_rfl)
-- 86: func([]uint8, []uint8) bool
abbrev r86 : TyR := { desc := .cell, size := 1, bytes := 8, zero := .sc .nilFunc }
theorem ty86 : TyOk Try.prog 86 r86 := TyOk.mk' (by kernel_rfl) (by kernel_rfl) Try.underlying86 (by kernel_rfl) (by kernel_rfl)
-- 87: func([]int) []int
abbrev r87 : TyR := { desc := .cell, size := 1, bytes := 8, zero := .sc .nilFunc }
theorem ty87 : TyOk Try.prog 87 r87 := TyOk.mk' (by kernel_rfl) (by kernel_rfl) Try.underlying87 (by kernel_rfl) (by kernel_rfl)
-- 89: func(uint, uint) (uint, uint)
abbrev r89 : TyR := { desc := .cell, size := 1, bytes := 8, zero := .sc .nilFunc }
theorem ty89 : TyOk Try.prog 89 r89 := TyOk.mk' (by kernel_rfl) (by kernel_rfl) Try.underlying89 (by kernel_rfl) (by kernel_rfl)
-- 90: uint32
abbrev r90 : TyR := { desc := .int .u32, size := 1, bytes := 4, zero := .sc (.int .u32 0) }
theorem ty90 : TyOk Try.prog 90 r90 := TyOk.mk' (by kernel_rfl) (by kernel_rfl) Try.underlying90 (by kernel_rfl) (by kernel_rfl)
-- 92: func(uint32, uint32) (uint32, uint32)
abbrev r92 : TyR := { desc := .cell, size := 1, bytes := 8, zero := .sc .nilFunc }
theorem ty92 : TyOk Try.prog 92 r92 := TyOk.mk' (by kernel_rfl) (by kernel_rfl) Try.underlying92 (by kernel_rfl) (by kernel_rfl)
-- 93: uint64
abbrev r93 : TyR := { desc := .int .u64, size := 1, bytes := 8, zero := .sc (.int .u64 0) }
theorem ty93 : TyOk Try.prog 93 r93 := TyOk.mk' (by kernel_rfl) (by kernel_rfl) Try.underlying93 (by kernel_rfl) (by kernel_rfl)
-- 95: func(uint64, uint64) (uint64, uint64)
abbrev r95 : TyR := { desc := .cell, size := 1, bytes := 8, zero := .sc .nilFunc }
theorem ty95 : TyOk Try.prog 95 r95 := TyOk.mk' (by kernel_rfl) (by kernel_rfl) Try.underlying95 (by kernel_rfl) (by kernel_rfl)
-- 96: func() string
abbrev r96 : TyR := { desc := .cell, size := 1, bytes := 8, zero := .sc .nilFunc }
theorem ty96 : TyOk Try.prog 96 r96 := TyOk.mk' (by kernel_rfl) (by kernel_rfl) Try.underlying96 (by kernel_rfl) (by kernel_rfl)
-- 99: [0]*runtime.PanicNilError
abbrev r99 : TyR := { desc := .array 0 16, size := 0, bytes := 0, zero := .nil }
theorem ty99 : TyOk Try.prog 99 r99 := TyOk.mk' (by kernel_rfl) (by kernel_rfl) Try.underlying99 (by kernel_rfl) (by kernel_rfl)
-- 104: func(unsafe.Pointer, unsafe.Pointer) bool
abbrev r104 : TyR := { desc := .cell, size := 1, bytes := 8, zero := .sc .nilFunc }
theorem ty104 : TyOk Try.prog 104 r104 := TyOk.mk' (by kernel_rfl) (by kernel_rfl) Try.underlying104 (by kernel_rfl) (by kernel_rfl)
-- 105: *uint8
abbrev r105 : TyR := { desc := .cell, size := 1, bytes := 8, zero := .sc (.pointer none) }
theorem ty105 : TyOk Try.prog 105 r105 := TyOk.mk' (by kernel_rfl) (by kernel_rfl) Try.underlying105 (by kernel_rfl) (by kernel_rfl)
abbrev tab : Tab := [(1, r1), (2, r2), (3, r3), (4, r4), (5, r5), (9, r9), (12, r12), (13, r13), (20, r20), (21, r21), (22, r22), (23, r23), (24, r24), (25, r25), (26, r26), (27, r27), (28, r28), (30, r30), (31, r31), (32, r32), (33, r33), (34, r34), (35, r35), (36, r36), (37, r37), (38, r38), (39, r39), (40, r40), (42, r42), (43, r43), (44, r44), (45, r45), (46, r46), (48, r48), (49, r49), (50, r50), (51, r51), (52, r52), (53, r53), (54, r54), (55, r55), (56, r56), (58, r58), (59, r59), (60, r60), (61, r61), (62, r62), (63, r63), (64, r64), (65, r65), (66, r66), (67, r67), (68, r68), (69, r69), (70, r70), (71, r71), (72, r72), (73, r73), (74, r74), (75, r75), (77, r77), (79, r79), (80, r80), (81, r81), (82, r82), (83, r83), (84, r84), (85, r85), (86, r86), (87, r87), (89, r89), (90, r90), (92, r92), (93, r93), (95, r95), (96, r96), (99, r99), (104, r104), (105, r105)]
theorem tab_ok : TabOk Try.prog tab :=
  (TabOk.cons ty1 (TabOk.cons ty2 (TabOk.cons ty3 (TabOk.cons ty4 (TabOk.cons ty5 (TabOk.cons ty9 (TabOk.cons ty12 (TabOk.cons ty13 (TabOk.cons ty20 (TabOk.cons ty21 (TabOk.cons ty22 (TabOk.cons ty23 (TabOk.cons ty24 (TabOk.cons ty25 (TabOk.cons ty26 (TabOk.cons ty27 (TabOk.cons ty28 (TabOk.cons ty30 (TabOk.cons ty31 (TabOk.cons ty32 (TabOk.cons ty33 (TabOk.cons ty34 (TabOk.cons ty35 (TabOk.cons ty36 (TabOk.cons ty37 (TabOk.cons ty38 (TabOk.cons ty39 (TabOk.cons ty40 (TabOk.cons ty42 (TabOk.cons ty43 (TabOk.cons ty44 (TabOk.cons ty45 (TabOk.cons ty46 (TabOk.cons ty48 (TabOk.cons ty49 (TabOk.cons ty50 (TabOk.cons ty51 (TabOk.cons ty52 (TabOk.cons ty53 (TabOk.cons ty54 (TabOk.cons ty55 (TabOk.cons ty56 (TabOk.cons ty58 (TabOk.cons ty59 (TabOk.cons ty60 (TabOk.cons ty61 (TabOk.cons ty62 (TabOk.cons ty63 (TabOk.cons ty64 (TabOk.cons ty65 (TabOk.cons ty66 (TabOk.cons ty67 (TabOk.cons ty68 (TabOk.cons ty69 (TabOk.cons ty70 (TabOk.cons ty71 (TabOk.cons ty72 (TabOk.cons ty73 (TabOk.cons ty74 (TabOk.cons ty75 (TabOk.cons ty77 (TabOk.cons ty79 (TabOk.cons ty80 (TabOk.cons ty81 (TabOk.cons ty82 (TabOk.cons ty83 (TabOk.cons ty84 (TabOk.cons ty85 (TabOk.cons ty86 (TabOk.cons ty87 (TabOk.cons ty89 (TabOk.cons ty90 (TabOk.cons ty92 (TabOk.cons ty93 (TabOk.cons ty95 (TabOk.cons ty96 (TabOk.cons ty99 (TabOk.cons ty104 (TabOk.cons ty105 TabOk.nil)))))))))))))))))))))))))))))))))))))))))))))))))))))))))))))))))))))))))))))))
end Go.Proofs.Ytfmemklkkmiicaa

/- Disks: versions. -/
namespace Go.Proofs.Ytfmemklkkmiicaa
open Go.Eng
set_option maxHeartbeats 2000000
attribute [local irreducible] WC RegS RegD SeqQ BlkQ ScoQ RegK CutK Sat SatN FnIs LoopQ StepIs OpIs
abbrev tup2 (x y : D) : AV := .tup (.acons (.d x) (.acons (.d y) .anil))
theorem count_is (l : Vs) : FnIs Try.prog 38 [.d (encVer l)] [] (.int .i64 l.length) [] := by
  cases l with
  | nil =>
    refine fnIs_of tab_ok Try.func38 rfl rfl rfl ?_
    refine wc_seq ?_
    refine wc_region ?_
    refine reg_quiet rfl (step_C tab_ok (fun K hk => hk)) ?_
    refine reg_nil ?_
    refine seq_n ?_
    refine wc_seq ?_
    refine wc_seq ?_
    refine wc_region ?_
    refine reg_quiet rfl (step_C tab_ok (fun K hk => hk)) ?_
    refine reg_quiet rfl (eql_pn rfl rfl rfl) ?_
    refine reg_nil ?_
    refine seq_n ?_
    refine wc_true rfl rfl ?_
    refine wc_seq ?_
    refine wc_region ?_
    refine reg_quiet rfl (step_C tab_ok (fun K hk => hk)) ?_
    refine reg_nil ?_
    refine seq_n ?_
    refine wc_ret ?_
    refine seq_r ?_
    exact ⟨trivial, [], .of rfl rfl rfl rfl rfl ⟨⟨_, rfl, AVLe.of_eq rfl⟩, rfl, trivial⟩ trivial⟩
  | cons v l =>
    refine fnIs_of tab_ok Try.func38 rfl rfl rfl ?_
    refine wc_seq ?_
    refine wc_region ?_
    refine reg_quiet rfl (step_C tab_ok (fun K hk => hk)) ?_
    refine reg_nil ?_
    refine seq_n ?_
    refine wc_seq ?_
    refine wc_seq ?_
    refine wc_region ?_
    refine reg_quiet rfl (step_C tab_ok (fun K hk => hk)) ?_
    refine reg_quiet rfl (eql_pt rfl rfl rfl) ?_
    refine reg_nil ?_
    refine seq_n ?_
    refine wc_false rfl rfl ?_
    refine wc_skip ?_
    refine seq_n ?_
    refine wc_seq ?_
    refine wc_region ?_
    refine reg_quiet rfl (step_C tab_ok (fun K hk => hk)) ?_
    refine reg_quiet rfl (nilCheck_pt rfl) ?_
    refine reg_quiet rfl (step_C tab_ok (fun K hk => hk)) ?_
    refine reg_quiet rfl (load_i tab_ok rfl rfl) ?_
    refine reg_quiet rfl (step_C tab_ok (fun K hk => hk)) ?_
    refine reg_nil ?_
    refine seq_n ?_
    refine wc_ret ?_
    exact ⟨trivial, [], .of rfl rfl rfl rfl rfl ⟨⟨_, rfl, AVLe.of_eq rfl⟩, rfl, trivial⟩ trivial⟩
theorem encVer_ok (l : Vs) : sizeOk tab 72 (.d (encVer l)) = true := by cases l <;> rfl
theorem back_is (l : Vs) (k : Nat) (hk : k ≤ l.length) (hl : l.length ≤ 1000000000) : FnIs Try.prog 39 [.d (encVer l), .d (i6 k)] [] (.d (encVer (l.drop k))) [] := by
  refine fnIs_of tab_ok Try.func39 rfl rfl rfl ?_
  refine wc_seq ?_
  refine wc_region ?_
  refine reg_quiet rfl (step_C tab_ok (fun K hk => hk)) ?_
  refine reg_nil ?_
  refine seq_n ?_
  refine wc_seq ?_
  refine wc_block ?_
  refine wc_inv (fun i : Nat => ⟨[(0, .d (encVer (l.drop i))), (1, .int .i64 ((k : Int) - i))], [], 72, Try.f39.ntmps, 64⟩) (fun i => i ≤ k) (fun i => k - i) 0 [] (Nat.zero_le _)
    (.of rfl rfl rfl rfl rfl ⟨⟨_, rfl, .refl _⟩, rfl, ⟨_, rfl, .of_eq (by rw [show ((0 : Nat) : Int) = 0 from rfl, Int.sub_zero]; rfl)⟩, rfl, trivial⟩ trivial) ?_
  intro i hi
  refine wc_of ?_
  refine wc_seq ?_
  refine wc_seq ?_
  refine wc_region ?_
  refine reg_quiet rfl (step_C tab_ok (fun K hk => hk)) ?_
  refine reg_quiet rfl (step_C tab_ok (fun K hk => hk)) ?_
  refine reg_nil ?_
  refine seq_n ?_
  refine wc_cond rfl (fun h3 => ?_) (fun h3 => ?_)
  · have hlt : i < k := by have := of_decide_eq_true h3; omega
    obtain ⟨v, m, hv⟩ : ∃ v m, l.drop i = v :: m := by
      cases hd : l.drop i with
      | nil => have := congrArg List.length hd; simp at this; omega
      | cons v m => exact ⟨v, m, rfl⟩
    have hm : l.drop (i + 1) = m := by rw [← List.drop_drop, hv]; rfl
    rw [hv]
    refine wc_skip ?_
    refine seq_n ?_
    refine wc_seq ?_
    refine wc_block ?_
    refine wc_region ?_
    refine reg_quiet rfl (step_C tab_ok (fun K hk => hk)) ?_
    refine reg_quiet rfl (nilCheck_pt rfl) ?_
    refine reg_quiet rfl (step_C tab_ok (fun K hk => hk)) ?_
    refine reg_quiet rfl (load_i tab_ok rfl (encVer_ok _)) ?_
    refine reg_quiet rfl (step_C tab_ok (fun K hk => hk)) ?_
    refine reg_nil ?_
    refine blk_n ?_
    refine seq_n ?_
    refine wc_region ?_
    refine reg_quiet rfl (step_C tab_ok (fun K hk => hk)) ?_
    refine reg_quiet rfl (sub_int tab_ok rfl rfl (wrap_i64 (by omega) (by omega))) ?_
    refine reg_quiet rfl (step_C tab_ok (fun K hk => hk)) ?_
    refine reg_nil ?_
    refine loop_n (i + 1) [] hlt (show k - (i + 1) < k - i by omega) ?_
    exact .of rfl rfl rfl rfl rfl ⟨⟨_, rfl, .of_eq (by rw [hm]; rfl)⟩, rfl, ⟨_, rfl, .of_eq (by push_cast; rw [Int.sub_sub]; rfl)⟩, rfl, trivial⟩ trivial
  · obtain rfl : i = k := by have := of_decide_eq_false h3; omega
    refine wc_exit ?_
    refine seq_x ?_
    refine loop_x ?_
    refine blk_x ?_
    refine seq_n ?_
    refine wc_seq ?_
    refine wc_region ?_
    refine reg_quiet rfl (step_C tab_ok (fun K hk => hk)) ?_
    refine reg_quiet rfl (step_C tab_ok (fun K hk => hk)) ?_
    refine reg_nil ?_
    refine seq_n ?_
    refine wc_ret ?_
    exact ⟨trivial, [], .of rfl rfl rfl rfl rfl ⟨⟨_, rfl, AVLe.of_eq rfl⟩, rfl, trivial⟩ trivial⟩
end Go.Proofs.Ytfmemklkkmiicaa

/- Disks: the newest version, and what it holds. -/
namespace Go.Proofs.Ytfmemklkkmiicaa
open Go.Eng
set_option maxHeartbeats 2000000
attribute [local irreducible] WC RegS RegD SeqQ BlkQ ScoQ RegK CutK Sat SatN FnIs LoopQ StepIs OpIs
theorem clone_ne (l : List Int) (hp : 0 < l.length) (hlen : l.length ≤ 1048576) : FnIs Try.prog 37 [.d (.arr 1 encU8 l)] [] (.own 64 0 l.length 1 none) [(64, .ds 5 1 false encU8 l)] := by
  refine fnIs_of tab_ok Try.func37 rfl rfl rfl ?_
  refine wc_seq ?_
  refine wc_region ?_
  refine reg_quiet rfl (step_C tab_ok (fun K hk => hk)) ?_
  refine reg_nil ?_
  refine seq_n ?_
  refine wc_seq ?_
  refine wc_seq ?_
  refine wc_region ?_
  refine reg_quiet rfl (step_C tab_ok (fun K hk => hk)) ?_
  refine reg_quiet rfl (eql_nil tab_ok rfl rfl rfl hp) ?_
  refine reg_nil ?_
  refine seq_n ?_
  refine wc_false rfl rfl ?_
  refine wc_skip ?_
  refine seq_n ?_
  refine wc_seq ?_
  refine wc_region ?_
  refine reg_quiet rfl (build_empty tab_ok rfl rfl) ?_
  refine reg_quiet rfl (step_C tab_ok (fun K hk => hk)) ?_
  refine reg_new (append_empty_arr tab_ok rfl rfl rfl rfl rfl (.inl rfl) rfl hp hlen rfl) rfl ?_
  refine reg_quiet rfl (step_C tab_ok (fun K hk => hk)) ?_
  refine reg_nil ?_
  refine seq_n ?_
  refine wc_ret ?_
  exact ⟨trivial, [(64, some 104)], .of rfl rfl rfl rfl rfl ⟨⟨_, rfl, AVLe.of_eq rfl⟩, rfl, trivial⟩ ⟨⟨rfl, rfl, _, rfl, .refl _⟩, trivial⟩⟩
theorem clone_e : FnIs Try.prog 37 [.d (.arr 1 encU8 [])] [] .empty [] := by
  refine FnIs.split_arr ?_ ?_
  · refine fnIs_of tab_ok Try.func37 rfl rfl rfl ?_
    refine wc_seq ?_
    refine wc_region ?_
    refine reg_quiet rfl (step_C tab_ok (fun K hk => hk)) ?_
    refine reg_nil ?_
    refine seq_n ?_
    refine wc_seq ?_
    refine wc_seq ?_
    refine wc_region ?_
    refine reg_quiet rfl (step_C tab_ok (fun K hk => hk)) ?_
    refine reg_quiet rfl (eql_nn tab_ok rfl rfl rfl) ?_
    refine reg_nil ?_
    refine seq_n ?_
    refine wc_true rfl rfl ?_
    refine wc_seq ?_
    refine wc_region ?_
    refine reg_quiet rfl (step_C tab_ok (fun K hk => hk)) ?_
    refine reg_nil ?_
    refine seq_n ?_
    refine wc_ret ?_
    refine seq_r ?_
    exact ⟨trivial, [], .of rfl rfl rfl rfl rfl ⟨⟨_, rfl, AVLe.nil_empty⟩, rfl, trivial⟩ trivial⟩
  · rintro ⟨a, c⟩
    refine fnIs_of tab_ok Try.func37 rfl rfl rfl ?_
    refine wc_seq ?_
    refine wc_region ?_
    refine reg_quiet rfl (step_C tab_ok (fun K hk => hk)) ?_
    refine reg_nil ?_
    refine seq_n ?_
    refine wc_seq ?_
    refine wc_seq ?_
    refine wc_region ?_
    refine reg_quiet rfl (step_C tab_ok (fun K hk => hk)) ?_
    refine reg_quiet rfl (eql_snil tab_ok rfl rfl rfl) ?_
    refine reg_nil ?_
    refine seq_n ?_
    refine wc_false rfl rfl ?_
    refine wc_skip ?_
    refine seq_n ?_
    refine wc_seq ?_
    refine wc_region ?_
    refine reg_quiet rfl (build_empty tab_ok rfl rfl) ?_
    refine reg_quiet rfl (step_C tab_ok (fun K hk => hk)) ?_
    refine reg_quiet rfl (append_e_e tab_ok rfl rfl rfl rfl) ?_
    refine reg_quiet rfl (step_C tab_ok (fun K hk => hk)) ?_
    refine reg_nil ?_
    refine seq_n ?_
    refine wc_ret ?_
    exact ⟨trivial, [], .of rfl rfl rfl rfl rfl ⟨⟨_, rfl, AVLe.of_eq rfl⟩, rfl, trivial⟩ trivial⟩
theorem clip_is (l : List Int) (n : Nat) (ex : Bool) : FnIs Try.prog 43 [.own 0 0 n 1 none] [(0, .ds 5 1 ex encU8 l)] (.own 0 0 n 1 (some n)) [(0, .ds 5 1 ex encU8 l)] := by
  refine fnIs_of tab_ok Try.func43 rfl rfl rfl ?_
  refine wc_seq ?_
  refine wc_region ?_
  refine reg_quiet rfl (step_C tab_ok (fun K hk => hk)) ?_
  refine reg_nil ?_
  refine seq_n ?_
  refine wc_seq ?_
  refine wc_region ?_
  refine reg_quiet rfl (step_C tab_ok (fun K hk => hk)) ?_
  refine reg_quiet rfl (step_C tab_ok (fun K hk => hk)) ?_
  refine reg_quiet rfl (len_own tab_ok rfl rfl) ?_
  refine reg_quiet rfl (step_C tab_ok (fun K hk => hk)) ?_
  refine reg_quiet rfl (len_own tab_ok rfl rfl) ?_
  refine reg_quiet rfl (slice_clip tab_ok rfl rfl rfl rfl rfl) ?_
  refine reg_quiet rfl (step_C tab_ok (fun K hk => hk)) ?_
  refine reg_nil ?_
  refine seq_n ?_
  refine wc_ret ?_
  exact ⟨trivial, [], .of rfl rfl rfl rfl rfl ⟨⟨_, rfl, AVLe.of_eq rfl⟩, rfl, trivial⟩ ⟨⟨rfl, rfl, _, rfl, .refl _⟩, trivial⟩⟩
theorem clip_e : FnIs Try.prog 43 [.empty] [] .empty [] := by
  refine fnIs_of tab_ok Try.func43 rfl rfl rfl ?_
  refine wc_seq ?_
  refine wc_region ?_
  refine reg_quiet rfl (step_C tab_ok (fun K hk => hk)) ?_
  refine reg_nil ?_
  refine seq_n ?_
  refine wc_seq ?_
  refine wc_region ?_
  refine reg_quiet rfl (step_C tab_ok (fun K hk => hk)) ?_
  refine reg_quiet rfl (step_C tab_ok (fun K hk => hk)) ?_
  refine reg_quiet rfl (len_empty tab_ok rfl rfl) ?_
  refine reg_quiet rfl (step_C tab_ok (fun K hk => hk)) ?_
  refine reg_quiet rfl (len_empty tab_ok rfl rfl) ?_
  refine reg_quiet rfl (slice_e00 tab_ok rfl rfl rfl rfl rfl) ?_
  refine reg_quiet rfl (step_C tab_ok (fun K hk => hk)) ?_
  refine reg_nil ?_
  refine seq_n ?_
  refine wc_ret ?_
  exact ⟨trivial, [], .of rfl rfl rfl rfl rfl ⟨⟨_, rfl, AVLe.of_eq rfl⟩, rfl, trivial⟩ trivial⟩
theorem clipI_is (l : List Int) (n : Nat) (ex : Bool) : FnIs Try.prog 41 [.own 0 0 n 1 none] [(0, .ds 3 1 ex i6 l)] (.own 0 0 n 1 (some n)) [(0, .ds 3 1 ex i6 l)] := by
  refine fnIs_of tab_ok Try.func41 rfl rfl rfl ?_
  refine wc_seq ?_
  refine wc_region ?_
  refine reg_quiet rfl (step_C tab_ok (fun K hk => hk)) ?_
  refine reg_nil ?_
  refine seq_n ?_
  refine wc_seq ?_
  refine wc_region ?_
  refine reg_quiet rfl (step_C tab_ok (fun K hk => hk)) ?_
  refine reg_quiet rfl (step_C tab_ok (fun K hk => hk)) ?_
  refine reg_quiet rfl (len_own tab_ok rfl rfl) ?_
  refine reg_quiet rfl (step_C tab_ok (fun K hk => hk)) ?_
  refine reg_quiet rfl (len_own tab_ok rfl rfl) ?_
  refine reg_quiet rfl (slice_clip tab_ok rfl rfl rfl rfl rfl) ?_
  refine reg_quiet rfl (step_C tab_ok (fun K hk => hk)) ?_
  refine reg_nil ?_
  refine seq_n ?_
  refine wc_ret ?_
  exact ⟨trivial, [], .of rfl rfl rfl rfl rfl ⟨⟨_, rfl, AVLe.of_eq rfl⟩, rfl, trivial⟩ ⟨⟨rfl, rfl, _, rfl, .refl _⟩, trivial⟩⟩
theorem arg_emp {look : Nat → Option Row} {ρ : Nat → Option Nat} {bs avs : List AV} (h : ArgsA look ρ bs avs) : ArgsA look ρ (.empty :: bs) (.empty :: avs) :=
  ⟨_, avs, rfl, ⟨rfl, rfl⟩, AVLe.of_eq rfl, h⟩
/-- What a version holds. -/
def contR : Vs → AV
  | ⟨true, b⟩ :: _ => tup2 (.arx 1 encU8 b) (i6 0)
  | _ => tup2 (.sc nil_) (i6 11)
theorem content_is (l : Vs) (hb : ∀ v ∈ l, v.b.length ≤ 1000000) : FnIs Try.prog 35 [.d (encVer l)] [] (contR l) [] := by
  match l with
  | [] =>
    refine fnIs_of tab_ok Try.func35 rfl rfl rfl ?_
    refine wc_seq ?_
    refine wc_region ?_
    refine reg_quiet rfl (step_C tab_ok (fun K hk => hk)) ?_
    refine reg_quiet rfl (step_C tab_ok (fun K hk => hk)) ?_
    refine reg_nil ?_
    refine seq_n ?_
    refine wc_seq ?_
    refine wc_seq ?_
    refine wc_region ?_
    refine reg_quiet rfl (step_C tab_ok (fun K hk => hk)) ?_
    refine reg_quiet rfl (eql_pn rfl rfl rfl) ?_
    refine reg_quiet rfl (step_C tab_ok (fun K hk => hk)) ?_
    refine reg_skip rfl rfl rfl rfl rfl ?_
    refine reg_skip rfl rfl rfl rfl rfl ?_
    refine reg_skip rfl rfl rfl rfl rfl ?_
    refine reg_skip rfl rfl rfl rfl rfl ?_
    refine reg_skip rfl rfl rfl rfl rfl ?_
    refine reg_quiet rfl (pick_T tab_ok rfl rfl rfl) ?_
    refine reg_nil ?_
    refine seq_n ?_
    refine wc_true rfl rfl ?_
    refine wc_seq ?_
    refine wc_region ?_
    refine reg_quiet rfl (step_C tab_ok (fun K hk => hk)) ?_
    refine reg_quiet rfl (step_C tab_ok (fun K hk => hk)) ?_
    refine reg_nil ?_
    refine seq_n ?_
    refine wc_ret ?_
    refine seq_r ?_
    exact ⟨trivial, [], .of rfl rfl rfl rfl rfl ⟨⟨_, rfl, AVLe.of_eq rfl⟩, rfl, trivial⟩ trivial⟩
  | ⟨false, b⟩ :: l =>
    refine fnIs_of tab_ok Try.func35 rfl rfl rfl ?_
    refine wc_seq ?_
    refine wc_region ?_
    refine reg_quiet rfl (step_C tab_ok (fun K hk => hk)) ?_
    refine reg_quiet rfl (step_C tab_ok (fun K hk => hk)) ?_
    refine reg_nil ?_
    refine seq_n ?_
    refine wc_seq ?_
    refine wc_seq ?_
    refine wc_region ?_
    refine reg_quiet rfl (step_C tab_ok (fun K hk => hk)) ?_
    refine reg_quiet rfl (eql_pt rfl rfl rfl) ?_
    refine reg_quiet rfl (step_C tab_ok (fun K hk => hk)) ?_
    refine reg_on rfl rfl rfl ?_
    refine reg_quiet rfl (step_C tab_ok (fun K hk => hk)) ?_
    refine reg_on rfl rfl rfl ?_
    refine reg_quiet rfl (nilCheck_pt rfl) ?_
    refine reg_on rfl rfl rfl ?_
    refine reg_quiet rfl (step_C tab_ok (fun K hk => hk)) ?_
    refine reg_on rfl rfl rfl ?_
    refine reg_quiet rfl (load_i tab_ok rfl rfl) ?_
    refine reg_on rfl rfl rfl ?_
    refine reg_quiet rfl (step_C tab_ok (fun K hk => hk)) ?_
    refine reg_quiet rfl (pick_F tab_ok rfl rfl rfl) ?_
    refine reg_nil ?_
    refine seq_n ?_
    refine wc_true rfl rfl ?_
    refine wc_seq ?_
    refine wc_region ?_
    refine reg_quiet rfl (step_C tab_ok (fun K hk => hk)) ?_
    refine reg_quiet rfl (step_C tab_ok (fun K hk => hk)) ?_
    refine reg_nil ?_
    refine seq_n ?_
    refine wc_ret ?_
    refine seq_r ?_
    exact ⟨trivial, [], .of rfl rfl rfl rfl rfl ⟨⟨_, rfl, AVLe.of_eq rfl⟩, rfl, trivial⟩ trivial⟩
  | ⟨true, []⟩ :: l =>
    refine fnIs_of tab_ok Try.func35 rfl rfl rfl ?_
    refine wc_seq ?_
    refine wc_region ?_
    refine reg_quiet rfl (step_C tab_ok (fun K hk => hk)) ?_
    refine reg_quiet rfl (step_C tab_ok (fun K hk => hk)) ?_
    refine reg_nil ?_
    refine seq_n ?_
    refine wc_seq ?_
    refine wc_seq ?_
    refine wc_region ?_
    refine reg_quiet rfl (step_C tab_ok (fun K hk => hk)) ?_
    refine reg_quiet rfl (eql_pt rfl rfl rfl) ?_
    refine reg_quiet rfl (step_C tab_ok (fun K hk => hk)) ?_
    refine reg_on rfl rfl rfl ?_
    refine reg_quiet rfl (step_C tab_ok (fun K hk => hk)) ?_
    refine reg_on rfl rfl rfl ?_
    refine reg_quiet rfl (nilCheck_pt rfl) ?_
    refine reg_on rfl rfl rfl ?_
    refine reg_quiet rfl (step_C tab_ok (fun K hk => hk)) ?_
    refine reg_on rfl rfl rfl ?_
    refine reg_quiet rfl (load_i tab_ok rfl rfl) ?_
    refine reg_on rfl rfl rfl ?_
    refine reg_quiet rfl (step_C tab_ok (fun K hk => hk)) ?_
    refine reg_quiet rfl (pick_F tab_ok rfl rfl rfl) ?_
    refine reg_nil ?_
    refine seq_n ?_
    refine wc_false rfl rfl ?_
    refine wc_skip ?_
    refine seq_n ?_
    refine wc_seq ?_
    refine wc_region ?_
    refine reg_quiet rfl (step_C tab_ok (fun K hk => hk)) ?_
    refine reg_quiet rfl (nilCheck_pt rfl) ?_
    refine reg_quiet rfl (step_C tab_ok (fun K hk => hk)) ?_
    refine reg_quiet rfl (load_i tab_ok rfl rfl) ?_
    refine reg_quiet rfl (call_r clone_e rfl rfl (arg_e arg_nil) (.inl rfl) (fun _ => rfl)) ?_
    refine reg_quiet rfl (call_r clip_e rfl rfl (arg_emp arg_nil) (.inl rfl) (fun _ => rfl)) ?_
    refine reg_quiet rfl (step_C tab_ok (fun K hk => hk)) ?_
    refine reg_quiet rfl (step_C tab_ok (fun K hk => hk)) ?_
    refine reg_nil ?_
    refine seq_n ?_
    refine wc_ret ?_
    skip
    exact ⟨trivial, [], .of rfl rfl rfl rfl rfl ⟨⟨_, rfl, AVLe.tup1 (AVLe.empty_arx 1 encU8) rfl⟩, rfl, trivial⟩ trivial⟩
  | ⟨true, x :: b⟩ :: l =>
    have hp : 0 < (x :: b).length := by simp
    have hlen : (x :: b).length ≤ 1048576 := by have := hb ⟨true, x :: b⟩ (by simp); simp only at this; omega
    refine fnIs_of tab_ok Try.func35 rfl rfl rfl ?_
    refine wc_seq ?_
    refine wc_region ?_
    refine reg_quiet rfl (step_C tab_ok (fun K hk => hk)) ?_
    refine reg_quiet rfl (step_C tab_ok (fun K hk => hk)) ?_
    refine reg_nil ?_
    refine seq_n ?_
    refine wc_seq ?_
    refine wc_seq ?_
    refine wc_region ?_
    refine reg_quiet rfl (step_C tab_ok (fun K hk => hk)) ?_
    refine reg_quiet rfl (eql_pt rfl rfl rfl) ?_
    refine reg_quiet rfl (step_C tab_ok (fun K hk => hk)) ?_
    refine reg_on rfl rfl rfl ?_
    refine reg_quiet rfl (step_C tab_ok (fun K hk => hk)) ?_
    refine reg_on rfl rfl rfl ?_
    refine reg_quiet rfl (nilCheck_pt rfl) ?_
    refine reg_on rfl rfl rfl ?_
    refine reg_quiet rfl (step_C tab_ok (fun K hk => hk)) ?_
    refine reg_on rfl rfl rfl ?_
    refine reg_quiet rfl (load_i tab_ok rfl rfl) ?_
    refine reg_on rfl rfl rfl ?_
    refine reg_quiet rfl (step_C tab_ok (fun K hk => hk)) ?_
    refine reg_quiet rfl (pick_F tab_ok rfl rfl rfl) ?_
    refine reg_nil ?_
    refine seq_n ?_
    refine wc_false rfl rfl ?_
    refine wc_skip ?_
    refine seq_n ?_
    refine wc_seq ?_
    refine wc_region ?_
    refine reg_quiet rfl (step_C tab_ok (fun K hk => hk)) ?_
    refine reg_quiet rfl (nilCheck_pt rfl) ?_
    refine reg_quiet rfl (step_C tab_ok (fun K hk => hk)) ?_
    refine reg_quiet rfl (load_i tab_ok rfl rfl) ?_
    refine reg_new (call_new (clone_ne _ hp hlen) rfl rfl (arg_e arg_nil) (.inl rfl) rfl rfl) rfl ?_
    refine reg_new2 (call_h [(0, some 184)] (clip_is (x :: b) (x :: b).length false) rfl rfl rfl (arg_give rfl rfl arg_nil) ⟨⟨rfl, rfl, _, _, rfl, rfl, .refl _⟩, trivial⟩ rfl rfl (.inl rfl) rfl rfl) rfl ?_
    refine reg_quiet rfl (step_C tab_ok (fun K hk => hk)) ?_
    refine reg_quiet rfl (step_C tab_ok (fun K hk => hk)) ?_
    refine reg_nil ?_
    refine seq_n ?_
    refine wc_freeze (env' := [(2, _), (3, _)]) (h' := []) 184 _ rfl ⟨⟨_, rfl, Frz.ownx rfl rfl⟩, ⟨_, rfl, .refl _⟩, trivial⟩ trivial ?_
    refine wc_ret ?_
    skip
    exact ⟨trivial, [], .of rfl rfl rfl rfl rfl ⟨⟨_, rfl, AVLe.of_eq rfl⟩, rfl, trivial⟩ trivial⟩
theorem tq {s : Nat} : 0 ≤ (s : Int).tdiv 64 ∧ (s : Int).tdiv 64 ≤ s ∧ 0 ≤ (s : Int).tmod 64 ∧ (s : Int).tmod 64 < 64 := by
  refine ⟨Int.tdiv_nonneg (by omega) (by omega), ?_, Int.tmod_nonneg _ (by omega), Int.tmod_lt_of_pos _ (by omega)⟩
  rw [Int.tdiv_eq_ediv_of_nonneg (by omega)]
  omega
theorem newest_bad (d : Dk) (s : Int) (h : (decide (s < 0) || decide (s ≥ d.n)) = true) : FnIs Try.prog 34 [.d (encDk d), .d (i6 s)] [] (tup2 (.sc nilp) (i6 1)) [] := by
  refine fnIs_of tab_ok Try.func34 rfl rfl rfl ?_
  refine wc_seq ?_
  refine wc_region ?_
  refine reg_new (step_C tab_ok (fun K hk => hk)) rfl ?_
  refine reg_quiet rfl (step_C tab_ok (fun K hk => hk)) ?_
  refine reg_quiet rfl (step_C tab_ok (fun K hk => hk)) ?_
  refine reg_nil ?_
  refine seq_n ?_
  refine wc_seq ?_
  refine wc_seq_cut 13 (.bool (decide (s < 0) || decide (s ≥ d.n))) _ rfl ?_ ?_
  · refine reg_quiet rfl (step_C tab_ok (fun K hk => hk)) ?_
    refine reg_quiet rfl (step_C tab_ok (fun K hk => hk)) ?_
    refine reg_quiet rfl (step_C tab_ok (fun K hk => hk)) ?_
    refine reg_split rfl rfl rfl (fun hb => ?_) (fun hb => ?_)
    refine reg_on rfl rfl (by assumption) ?_
    refine reg_quiet rfl (step_C tab_ok (fun K hk => hk)) ?_
    refine reg_on rfl rfl (by assumption) ?_
    refine reg_quiet rfl (step_C tab_ok (fun K hk => hk)) ?_
    refine reg_on rfl rfl (by assumption) ?_
    refine reg_quiet rfl (load_box tab_ok rfl rfl ⟨_, rfl, rfl⟩ rfl) ?_
    refine reg_on rfl rfl (by assumption) ?_
    refine reg_quiet rfl (step_C tab_ok (fun K hk => hk)) ?_
    refine reg_quiet rfl (pick_F tab_ok rfl (by assumption) rfl) ?_
    rotate_left
    refine reg_skip rfl rfl (by assumption) rfl rfl ?_
    refine reg_skip rfl rfl (by assumption) rfl rfl ?_
    refine reg_skip rfl rfl (by assumption) rfl rfl ?_
    refine reg_skip rfl rfl (by assumption) rfl rfl ?_
    refine reg_quiet rfl (pick_T tab_ok rfl (by assumption) rfl) ?_
    rotate_left
    all_goals refine reg_cut 8 rfl rfl rfl rfl rfl rfl rfl rfl rfl (AVLe.of_eq ?_)
    all_goals (first | rfl | (clear q5; simp_all; done) | (simp_all; done) | (simp_all; omega))
  refine wc_true rfl (by assumption) ?_
  refine wc_seq ?_
  refine wc_region ?_
  refine reg_quiet rfl (step_C tab_ok (fun K hk => hk)) ?_
  refine reg_quiet rfl (step_C tab_ok (fun K hk => hk)) ?_
  refine reg_nil ?_
  refine seq_n ?_
  refine wc_ret ?_
  refine seq_r ?_
  exact ⟨trivial, [], .of rfl rfl rfl rfl rfl ⟨⟨_, rfl, AVLe.of_eq rfl⟩, rfl, trivial⟩ trivial⟩
theorem newest_ok (d : Dk) (s : Nat) (c : List Vs) (v : Vs) (h : (s : Int) < d.n) (hn : d.n ≤ 10922) (hc : d.cs[((s : Int).tdiv 64).toNat]? = some c) (hv : c[((s : Int).tmod 64).toNat]? = some v) : FnIs Try.prog 34 [.d (encDk d), .d (i6 s)] [] (tup2 (encVer v) (i6 0)) [] := by
  have q := tq (s := s)
  have h1 : (decide ((s : Int) < 0) || decide ((s : Int) ≥ d.n)) = false := by rw [decide_eq_false (by omega), decide_eq_false (by omega)]; rfl
  have hc' : (d.cs.map some)[((s : Int).tdiv 64).toNat]? = some (some c) := by rw [List.getElem?_map, hc]; rfl
  refine fnIs_of tab_ok Try.func34 rfl rfl rfl ?_
  refine wc_seq ?_
  refine wc_region ?_
  refine reg_new (step_C tab_ok (fun K hk => hk)) rfl ?_
  refine reg_quiet rfl (step_C tab_ok (fun K hk => hk)) ?_
  refine reg_quiet rfl (step_C tab_ok (fun K hk => hk)) ?_
  refine reg_nil ?_
  refine seq_n ?_
  refine wc_seq ?_
  refine wc_seq_cut 13 (.bool (decide ((s : Int) < 0) || decide ((s : Int) ≥ d.n))) _ rfl ?_ ?_
  · refine reg_quiet rfl (step_C tab_ok (fun K hk => hk)) ?_
    refine reg_quiet rfl (step_C tab_ok (fun K hk => hk)) ?_
    refine reg_quiet rfl (step_C tab_ok (fun K hk => hk)) ?_
    refine reg_on rfl rfl rfl ?_
    refine reg_quiet rfl (step_C tab_ok (fun K hk => hk)) ?_
    refine reg_on rfl rfl rfl ?_
    refine reg_quiet rfl (step_C tab_ok (fun K hk => hk)) ?_
    refine reg_on rfl rfl rfl ?_
    refine reg_quiet rfl (load_box tab_ok rfl rfl ⟨_, rfl, rfl⟩ rfl) ?_
    refine reg_on rfl rfl rfl ?_
    refine reg_quiet rfl (step_C tab_ok (fun K hk => hk)) ?_
    refine reg_quiet rfl (pick_F tab_ok rfl rfl rfl) ?_
    all_goals refine reg_cut 8 rfl rfl rfl rfl rfl rfl rfl rfl rfl (AVLe.of_eq ?_)
    all_goals (first | rfl | (clear q5; simp_all; done) | (simp_all; done) | (simp_all; omega))
  refine wc_false rfl (by assumption) ?_
  refine wc_skip ?_
  refine seq_n ?_
  refine wc_seq ?_
  refine wc_region ?_
  refine reg_quiet rfl (step_C tab_ok (fun K hk => hk)) ?_
  refine reg_quiet rfl (load_box tab_ok rfl rfl ⟨_, rfl, rfl⟩ rfl) ?_
  refine reg_quiet rfl (step_C tab_ok (fun K hk => hk)) ?_
  refine reg_quiet rfl (quo_int tab_ok rfl rfl (by omega) (wrap_i64 (by omega) (by omega))) ?_
  refine reg_quiet rfl (index_arr tab_ok rfl rfl rfl rfl rfl (by omega) (by assumption)) ?_
  refine reg_quiet rfl (load_i tab_ok rfl rfl) ?_
  refine reg_quiet rfl (step_C tab_ok (fun K hk => hk)) ?_
  refine reg_quiet rfl (rem_int tab_ok rfl rfl (by omega)) ?_
  refine reg_quiet rfl (nilCheck_pt rfl) ?_
  refine reg_quiet rfl (step_C tab_ok (fun K hk => ⟨by omega, by omega, encVer v, ⟨rfl, v, hv, rfl⟩, hk⟩)) ?_
  refine reg_quiet rfl (load_i tab_ok rfl (encVer_ok _)) ?_
  refine reg_quiet rfl (step_C tab_ok (fun K hk => hk)) ?_
  refine reg_quiet rfl (step_C tab_ok (fun K hk => hk)) ?_
  refine reg_nil ?_
  refine seq_n ?_
  refine wc_ret ?_
  exact ⟨trivial, [], .of rfl rfl rfl rfl rfl ⟨⟨_, rfl, AVLe.of_eq rfl⟩, rfl, trivial⟩ trivial⟩
end Go.Proofs.Ytfmemklkkmiicaa

/- Disks: slices.Repeat of one chunk; New; with. -/
namespace Go.Proofs.Ytfmemklkkmiicaa
open Go.Eng
set_option maxHeartbeats 2000000
attribute [local irreducible] WC RegS RegD SeqQ BlkQ ScoQ RegK CutK Sat SatN FnIs LoopQ StepIs OpIs
abbrev u6 (n : Int) : D := .sc (.int .u64 n)
theorem mul64_is (c : Nat) (hc : c < 4294967296) : FnIs Try.prog 45 [.d (u6 1), .d (u6 c)] [] (tup2 (u6 0) (u6 c)) [] := by
  have hw1 : IntKind.u64.wrap ((1 : Int) * c) = c := by rw [Int.one_mul]; exact wrap_u64 (by omega) (by omega)
  have hw0 : IntKind.u64.wrap ((0 : Int) * c) = 0 := by rw [Int.zero_mul]; rfl
  refine fnIs_of tab_ok Try.func45 rfl rfl rfl ?_
  refine wc_seq ?_
  refine wc_region ?_
  refine reg_quiet rfl (step_C tab_ok (fun K hk => hk)) ?_
  refine reg_quiet rfl (step_C tab_ok (fun K hk => hk)) ?_
  refine reg_nil ?_
  refine seq_n ?_
  refine wc_seq ?_
  refine wc_region ?_
  refine reg_quiet rfl (step_C tab_ok (fun K hk => hk)) ?_
  refine reg_quiet rfl (and_m32 (c := 1) tab_ok rfl rfl (by decide)) ?_
  refine reg_quiet rfl (step_C tab_ok (fun K hk => hk)) ?_
  refine reg_nil ?_
  refine seq_n ?_
  refine wc_seq ?_
  refine wc_region ?_
  refine reg_quiet rfl (step_C tab_ok (fun K hk => hk)) ?_
  refine reg_quiet rfl (shr_32 (c := 1) tab_ok rfl rfl (by decide)) ?_
  refine reg_quiet rfl (step_C tab_ok (fun K hk => hk)) ?_
  refine reg_nil ?_
  refine seq_n ?_
  refine wc_seq ?_
  refine wc_region ?_
  refine reg_quiet rfl (step_C tab_ok (fun K hk => hk)) ?_
  refine reg_quiet rfl (and_m32 (c := c) tab_ok rfl rfl hc) ?_
  refine reg_quiet rfl (step_C tab_ok (fun K hk => hk)) ?_
  refine reg_nil ?_
  refine seq_n ?_
  refine wc_seq ?_
  refine wc_region ?_
  refine reg_quiet rfl (step_C tab_ok (fun K hk => hk)) ?_
  refine reg_quiet rfl (shr_32 (c := c) tab_ok rfl rfl hc) ?_
  refine reg_quiet rfl (step_C tab_ok (fun K hk => hk)) ?_
  refine reg_nil ?_
  refine seq_n ?_
  refine wc_seq ?_
  refine wc_region ?_
  refine reg_quiet rfl (step_C tab_ok (fun K hk => hk)) ?_
  refine reg_quiet rfl (step_C tab_ok (fun K hk => hk)) ?_
  refine reg_quiet rfl (mul_int (m := (c : Int)) tab_ok rfl rfl hw1) ?_
  refine reg_quiet rfl (step_C tab_ok (fun K hk => hk)) ?_
  refine reg_nil ?_
  refine seq_n ?_
  refine wc_seq ?_
  refine wc_region ?_
  refine reg_quiet rfl (step_C tab_ok (fun K hk => hk)) ?_
  refine reg_quiet rfl (step_C tab_ok (fun K hk => hk)) ?_
  refine reg_quiet rfl (mul_int (m := 0) tab_ok rfl rfl hw0) ?_
  refine reg_quiet rfl (step_C tab_ok (fun K hk => hk)) ?_
  refine reg_quiet rfl (shr_32 (c := c) tab_ok rfl rfl hc) ?_
  refine reg_quiet rfl (add_int (m := 0) tab_ok rfl rfl rfl) ?_
  refine reg_quiet rfl (step_C tab_ok (fun K hk => hk)) ?_
  refine reg_nil ?_
  refine seq_n ?_
  refine wc_seq ?_
  refine wc_region ?_
  refine reg_quiet rfl (step_C tab_ok (fun K hk => hk)) ?_
  refine reg_quiet rfl (and_m32 (c := 0) tab_ok rfl rfl (by decide)) ?_
  refine reg_quiet rfl (step_C tab_ok (fun K hk => hk)) ?_
  refine reg_nil ?_
  refine seq_n ?_
  refine wc_seq ?_
  refine wc_region ?_
  refine reg_quiet rfl (step_C tab_ok (fun K hk => hk)) ?_
  refine reg_quiet rfl (shr_32 (c := 0) tab_ok rfl rfl (by decide)) ?_
  refine reg_quiet rfl (step_C tab_ok (fun K hk => hk)) ?_
  refine reg_nil ?_
  refine seq_n ?_
  refine wc_seq ?_
  refine wc_region ?_
  refine reg_quiet rfl (step_C tab_ok (fun K hk => hk)) ?_
  refine reg_quiet rfl (step_C tab_ok (fun K hk => hk)) ?_
  refine reg_quiet rfl (step_C tab_ok (fun K hk => hk)) ?_
  refine reg_quiet rfl (mul_int (m := 0) tab_ok rfl rfl rfl) ?_
  refine reg_quiet rfl (add_int (m := 0) tab_ok rfl rfl rfl) ?_
  refine reg_quiet rfl (step_C tab_ok (fun K hk => hk)) ?_
  refine reg_nil ?_
  refine seq_n ?_
  refine wc_seq ?_
  refine wc_region ?_
  refine reg_quiet rfl (step_C tab_ok (fun K hk => hk)) ?_
  refine reg_quiet rfl (step_C tab_ok (fun K hk => hk)) ?_
  refine reg_quiet rfl (mul_int (m := 0) tab_ok rfl rfl rfl) ?_
  refine reg_quiet rfl (step_C tab_ok (fun K hk => hk)) ?_
  refine reg_quiet rfl (add_int (m := 0) tab_ok rfl rfl rfl) ?_
  refine reg_quiet rfl (step_C tab_ok (fun K hk => hk)) ?_
  refine reg_quiet rfl (shr_32 (c := 0) tab_ok rfl rfl (by decide)) ?_
  refine reg_quiet rfl (add_int (m := 0) tab_ok rfl rfl rfl) ?_
  refine reg_quiet rfl (step_C tab_ok (fun K hk => hk)) ?_
  refine reg_nil ?_
  refine seq_n ?_
  refine wc_seq ?_
  refine wc_region ?_
  refine reg_quiet rfl (step_C tab_ok (fun K hk => hk)) ?_
  refine reg_quiet rfl (step_C tab_ok (fun K hk => hk)) ?_
  refine reg_quiet rfl (mul_int (m := (c : Int)) tab_ok rfl rfl hw1) ?_
  refine reg_quiet rfl (step_C tab_ok (fun K hk => hk)) ?_
  refine reg_nil ?_
  refine seq_n ?_
  refine wc_ret ?_
  exact ⟨trivial, [], .of rfl rfl rfl rfl rfl ⟨⟨_, rfl, AVLe.of_eq rfl⟩, rfl, trivial⟩ trivial⟩
theorem mul_is (c : Nat) (hc : c < 4294967296) : FnIs Try.prog 42 [.d (u6 1), .d (u6 c)] [] (tup2 (u6 0) (u6 c)) [] := by
  refine fnIs_of tab_ok Try.func42 rfl rfl rfl ?_
  refine wc_seq ?_
  refine wc_region ?_
  refine reg_quiet rfl (step_C tab_ok (fun K hk => hk)) ?_
  refine reg_quiet rfl (step_C tab_ok (fun K hk => hk)) ?_
  refine reg_nil ?_
  refine seq_n ?_
  refine wc_seq ?_
  refine wc_false rfl rfl ?_
  refine wc_skip ?_
  refine seq_n ?_
  refine wc_seq ?_
  refine wc_region ?_
  refine reg_quiet rfl (step_C tab_ok (fun K hk => hk)) ?_
  refine reg_quiet rfl (step_C tab_ok (fun K hk => hk)) ?_
  refine reg_quiet rfl (call_r (mul64_is c hc) rfl rfl (arg_e (arg_e arg_nil)) (.inl rfl) (fun _ => rfl)) ?_
  refine reg_quiet rfl (step_C tab_ok (fun K hk => hk)) ?_
  refine reg_quiet rfl (step_C tab_ok (fun K hk => hk)) ?_
  refine reg_quiet rfl (step_C tab_ok (fun K hk => hk)) ?_
  refine reg_quiet rfl (step_C tab_ok (fun K hk => hk)) ?_
  refine reg_quiet rfl (step_C tab_ok (fun K hk => hk)) ?_
  refine reg_nil ?_
  refine seq_n ?_
  refine wc_seq ?_
  refine wc_region ?_
  refine reg_quiet rfl (step_C tab_ok (fun K hk => hk)) ?_
  refine reg_quiet rfl (step_C tab_ok (fun K hk => hk)) ?_
  refine reg_quiet rfl (step_C tab_ok (fun K hk => hk)) ?_
  refine reg_quiet rfl (step_C tab_ok (fun K hk => hk)) ?_
  refine reg_nil ?_
  refine seq_n ?_
  refine wc_ret ?_
  exact ⟨trivial, [], .of rfl rfl rfl rfl rfl ⟨⟨_, rfl, AVLe.of_eq rfl⟩, rfl, trivial⟩ trivial⟩
abbrev zc : List Vs := List.replicate 64 []
def rp (k N : Nat) : List (Option (List Vs)) := List.replicate k (some zc) ++ List.replicate (N - k) none
theorem rp_len {k N : Nat} (h : k ≤ N) : (rp k N).length = N := by simp [rp]; omega
theorem rp_take {k N : Nat} : (rp k N).take k = List.replicate k (some zc) := by simp [rp, List.take_append]
theorem rp_drop {k m N : Nat} : (rp k N).drop (k + m) = List.replicate (N - k - m) none := by
  rw [rp, List.drop_append]
  simp
theorem rp_step {k m N : Nat} (hk : k ≤ N) (hm : m ≤ k) : (rp k N).take k ++ ((rp k N).take k).take m ++ (rp k N).drop (k + m) = rp (k + m) N := by
  rw [rp_take, rp_drop, List.take_replicate, Nat.min_eq_left hm, List.replicate_append_replicate, rp, show N - k - m = N - (k + m) by omega]
theorem rp_one {N : Nat} (h : 1 ≤ N) : ((List.replicate N (none : Option (List Vs))).take 0 ++ ([some zc] : List (Option (List Vs))).take 1 ++ (List.replicate N (none : Option (List Vs))).drop (0 + 1)) = rp 1 N := by
  rw [rp]
  simp
theorem repeat_is (N : Nat) (hN1 : 1 ≤ N) (hN2 : N ≤ 1000) : FnIs Try.prog 31 [.d (.arr 1 encC [some zc]), .d (i6 N)] [] (.own 64 0 N 1 none) [(64, .ds 71 1 true encC (List.replicate N (some zc)))] := by
  have hN3 : N < 4294967296 := by omega
  have hlen : N ≤ 1048576 := by omega
  have d0 : decide ((N : Int) < 0) = false := decide_eq_false (by omega)
  have d1 : decide (9223372036854775807 < (N : Int)) = false := decide_eq_false (by omega)
  have hl1 : 0 + N ≤ (List.replicate N (none : Option (List Vs))).length := by simp
  have hmin1 : min ([some zc] : List (Option (List Vs))).length N = 1 := by simp; omega
  refine fnIs_of tab_ok Try.func31 rfl rfl rfl ?_
  refine wc_seq ?_
  refine wc_region ?_
  refine reg_quiet rfl (step_C tab_ok (fun K hk => hk)) ?_
  refine reg_nil ?_
  refine seq_n ?_
  refine wc_seq ?_
  refine wc_seq ?_
  refine wc_region ?_
  refine reg_quiet rfl (step_C tab_ok (fun K hk => hk)) ?_
  refine reg_quiet rfl (step_C tab_ok (fun K hk => hk)) ?_
  refine reg_nil ?_
  refine seq_n ?_
  refine wc_false rfl rfl ?_
  refine wc_skip ?_
  refine seq_n ?_
  refine wc_seq ?_
  refine wc_region ?_
  refine reg_quiet rfl (step_C tab_ok (fun K hk => hk)) ?_
  refine reg_quiet rfl (len_arr tab_ok rfl rfl) ?_
  refine reg_quiet rfl (conv_int tab_ok rfl rfl rfl rfl) ?_
  refine reg_quiet rfl (step_C tab_ok (fun K hk => hk)) ?_
  refine reg_quiet rfl (conv_int (m := (N : Int)) tab_ok rfl rfl rfl (wrap_u64 (by omega) (by omega))) ?_
  refine reg_quiet rfl (call_r (mul_is N hN3) rfl rfl (arg_e (arg_e arg_nil)) (.inl rfl) (fun _ => rfl)) ?_
  refine reg_quiet rfl (step_C tab_ok (fun K hk => hk)) ?_
  refine reg_quiet rfl (step_C tab_ok (fun K hk => hk)) ?_
  refine reg_quiet rfl (step_C tab_ok (fun K hk => hk)) ?_
  refine reg_quiet rfl (step_C tab_ok (fun K hk => hk)) ?_
  refine reg_quiet rfl (step_C tab_ok (fun K hk => hk)) ?_
  refine reg_nil ?_
  refine seq_n ?_
  refine wc_seq ?_
  refine wc_seq ?_
  refine wc_region ?_
  refine reg_quiet rfl (step_C tab_ok (fun K hk => hk)) ?_
  refine reg_quiet rfl (step_C tab_ok (fun K hk => hk)) ?_
  refine reg_quiet rfl (step_C tab_ok (fun K hk => hk)) ?_
  refine reg_on rfl rfl rfl ?_
  refine reg_quiet rfl (step_C tab_ok (fun K hk => hk)) ?_
  refine reg_on rfl rfl rfl ?_
  refine reg_quiet rfl (step_C tab_ok (fun K hk => hk)) ?_
  refine reg_quiet rfl (pick_F tab_ok rfl rfl rfl) ?_
  refine reg_nil ?_
  refine seq_n ?_
  refine wc_false rfl (by assumption) ?_
  refine wc_skip ?_
  refine seq_n ?_
  refine wc_seq ?_
  refine wc_region ?_
  refine reg_quiet rfl (step_C tab_ok (fun K hk => hk)) ?_
  refine reg_quiet rfl (conv_int (m := (N : Int)) tab_ok rfl rfl rfl (wrap_i64 (by omega) (by omega))) ?_
  refine reg_new (make_full (enc := encC) (s := 1) (N := N) tab_ok none rfl rfl rfl rfl rfl rfl rfl hlen rfl) rfl ?_
  refine reg_quiet rfl (step_C tab_ok (fun K hk => hk)) ?_
  refine reg_nil ?_
  refine seq_n ?_
  refine wc_seq ?_
  refine wc_region ?_
  refine reg_quiet rfl (step_C tab_ok (fun K hk => hk)) ?_
  refine reg_quiet rfl (step_C tab_ok (fun K hk => hk)) ?_
  refine reg_new (copy_at (enc := encC) (m := 1) (ys := [some zc]) tab_ok rfl rfl rfl rfl rfl rfl hl1 hmin1 (by decide) (rp_one hN1) (src_arr (by decide) rfl (by decide))) rfl ?_
  refine reg_quiet rfl (step_C tab_ok (fun K hk => hk)) ?_
  refine reg_nil ?_
  refine seq_n ?_
  refine wc_seq ?_
  refine wc_block ?_
  refine wc_inv (fun i : Nat => ⟨[(8, .int .i64 i), (7, .own 64 0 N 1 none)], [(64, some (.ds 71 1 true encC (rp i N)))], 72, Try.f31.ntmps, 64⟩) (fun i => 1 ≤ i ∧ i ≤ N) (fun i => N - i) 1 [(64, some 240)] ⟨Nat.le_refl _, hN1⟩
    (.of rfl rfl rfl rfl rfl ⟨⟨_, rfl, .refl _⟩, rfl, ⟨_, rfl, .refl _⟩, rfl, trivial⟩ ⟨⟨rfl, rfl, _, rfl, .refl _⟩, trivial⟩) ?_
  rintro i ⟨hi1, hi⟩
  refine wc_of ?_
  refine wc_seq ?_
  refine wc_seq ?_
  refine wc_region ?_
  refine reg_quiet rfl (step_C tab_ok (fun K hk => hk)) ?_
  refine reg_quiet rfl (step_C tab_ok (fun K hk => hk)) ?_
  refine reg_quiet rfl (len_own tab_ok rfl rfl) ?_
  refine reg_quiet rfl (step_C tab_ok (fun K hk => hk)) ?_
  refine reg_nil ?_
  refine seq_n ?_
  refine wc_cond rfl (fun h3 => ?_) (fun h3 => ?_)
  · have hlt : i < N := by have := of_decide_eq_true h3; omega
    have hi0 : 0 < i := by omega
    have hl3 : i ≤ (rp i N).length := by rw [rp_len hi]; exact hi
    have hl2 : i + (N - i) ≤ (rp i N).length := by rw [rp_len hi]; omega
    have hmin2 : min ((rp i N).take i).length (N - i) = min i (N - i) := by rw [rp_take]; simp
    have hm0 : 0 < min i (N - i) := by omega
    refine wc_skip ?_
    refine seq_n ?_
    refine wc_block ?_
    refine wc_draw (by kernel_rfl) ?_
    refine dreg_q [8] [] rfl (step_C tab_ok (fun K hk => hk)) ?_
    refine dreg_q [7] [64] rfl (step_C tab_ok (fun K hk => hk)) ?_
    refine dreg_q [8] [] rfl (step_C tab_ok (fun K hk => hk)) ?_
    refine dreg_q [39, 40] [64] rfl (slice_own_from tab_ok rfl rfl rfl rfl rfl hi) ?_
    refine dreg_q [7] [64] rfl (step_C tab_ok (fun K hk => hk)) ?_
    refine dreg_q [8] [] rfl (step_C tab_ok (fun K hk => hk)) ?_
    refine dreg_q [42, 43] [64] rfl (slice_own_to tab_ok rfl rfl rfl rfl hi) ?_
    refine dreg_w [41, 44] [64] rfl (copy_at (enc := encC) (m := min i (N - i)) (ys := (rp i N).take i) tab_ok rfl rfl rfl rfl rfl rfl hl2 hmin2 hm0 (rp_step hi (by omega)) (src_pre rfl rfl hl3 hi0)) ?_
    refine dreg_q [38, 45] [] rfl (add_int tab_ok rfl rfl (wrap_i64 (by omega) (by omega))) ?_
    refine dreg_q [46] [] rfl (step_C tab_ok (fun K hk => hk)) ?_
    refine dreg_end (by kernel_rfl) ?_
    refine blk_n ?_
    refine loop_n (i + min i (N - i)) [(64, some 64)] ⟨by omega, by omega⟩ (show N - (i + min i (N - i)) < N - i by omega) ?_
    exact .of rfl rfl rfl rfl rfl ⟨⟨_, rfl, .of_eq (by push_cast; rfl)⟩, rfl, ⟨_, rfl, .refl _⟩, rfl, trivial⟩ ⟨⟨rfl, rfl, _, rfl, .refl _⟩, trivial⟩
  · obtain rfl : i = N := by have := of_decide_eq_false h3; omega
    have hr : rp i i = List.replicate i (some zc) := by simp [rp]
    rw [hr]
    refine wc_exit ?_
    refine seq_x ?_
    refine loop_x ?_
    refine blk_x ?_
    refine seq_n ?_
    refine wc_seq ?_
    refine wc_region ?_
    refine reg_quiet rfl (step_C tab_ok (fun K hk => hk)) ?_
    refine reg_quiet rfl (step_C tab_ok (fun K hk => hk)) ?_
    refine reg_nil ?_
    refine seq_n ?_
    refine wc_ret ?_
    exact ⟨trivial, [(64, some 64)], .of rfl rfl rfl rfl rfl ⟨⟨_, rfl, AVLe.of_eq rfl⟩, rfl, trivial⟩ ⟨⟨rfl, rfl, _, rfl, .refl _⟩, trivial⟩⟩
end Go.Proofs.Ytfmemklkkmiicaa

/- Disks: New; with. -/
namespace Go.Proofs.Ytfmemklkkmiicaa
open Go.Eng
set_option maxHeartbeats 2000000
attribute [local irreducible] WC RegS RegD SeqQ BlkQ ScoQ RegK CutK Sat SatN FnIs LoopQ StepIs OpIs
def zeroK : Dk := ⟨0, 0, []⟩
theorem zero_le : AVLe (.d zeroDk) (.d (encDk zeroK)) := AVLe.d (DLe.cons (DLe.refl _) (DLe.cons (DLe.refl _) (DLe.cons (DLe.nil_arr 1 encC) (DLe.refl _)))) rfl
abbrev badN (n : Int) : Bool := decide (n < 1) || decide (10922 < n)
theorem new_bad (n : Int) (h : badN n = true) : FnIs Try.prog 9 [.d (i6 n)] [] (tup2 (encDk zeroK) (i6 1)) [] := by
  refine fnIs_of tab_ok Try.func9 rfl rfl rfl ?_
  refine wc_seq ?_
  refine wc_region ?_
  refine reg_new (step_C tab_ok (fun K hk => hk)) rfl ?_
  refine reg_quiet rfl (step_C tab_ok (fun K hk => hk)) ?_
  refine reg_nil ?_
  refine seq_n ?_
  refine wc_seq ?_
  refine wc_seq_cut 9 (.bool (badN n)) _ rfl ?_ ?_
  · refine reg_quiet rfl (step_C tab_ok (fun K hk => hk)) ?_
    refine reg_quiet rfl (step_C tab_ok (fun K hk => hk)) ?_
    refine reg_quiet rfl (step_C tab_ok (fun K hk => hk)) ?_
    refine reg_split rfl rfl rfl (fun hb => ?_) (fun hb => ?_)
    refine reg_on rfl rfl (by assumption) ?_
    refine reg_quiet rfl (step_C tab_ok (fun K hk => hk)) ?_
    refine reg_on rfl rfl (by assumption) ?_
    refine reg_quiet rfl (step_C tab_ok (fun K hk => hk)) ?_
    refine reg_quiet rfl (pick_F tab_ok rfl (by assumption) rfl) ?_
    rotate_left
    refine reg_skip rfl rfl (by assumption) rfl rfl ?_
    refine reg_skip rfl rfl (by assumption) rfl rfl ?_
    refine reg_quiet rfl (pick_T tab_ok rfl (by assumption) rfl) ?_
    rotate_left
    all_goals refine reg_cut 6 rfl rfl rfl rfl rfl rfl rfl rfl rfl (AVLe.of_eq ?_)
    all_goals (first | rfl | (clear q5; simp_all; done) | (simp_all; done) | (simp_all; omega))
  refine wc_true rfl (by assumption) ?_
  refine wc_seq ?_
  refine wc_region ?_
  refine reg_quiet rfl (build_struct tab_ok rfl rfl rfl rfl) ?_
  refine reg_store (store_row tab_ok rfl rfl rfl ⟨_, ⟨rfl, rfl, rfl⟩, rfl⟩ rfl) ?_
  refine reg_quiet rfl (step_C tab_ok (fun K hk => hk)) ?_
  refine reg_nil ?_
  refine seq_n ?_
  refine wc_ret ?_
  refine seq_r ?_
  exact ⟨trivial, _, rfl, [], .of rfl rfl rfl rfl rfl ⟨⟨_, rfl, AVLe.tup1 zero_le rfl⟩, rfl, trivial⟩ trivial⟩
theorem new_ok (N K : Nat) (hK : K = (N + 63) / 64) (h : badN (N : Int) = false) : FnIs Try.prog 9 [.d (i6 N)] [] (tup2 (encDk ⟨N, 0, List.replicate K zc⟩) (i6 0)) [] := by
  have hb : 1 ≤ N ∧ N ≤ 10922 := by
    rw [Bool.or_eq_false_iff] at h
    have h1 := of_decide_eq_false h.1
    have h2 := of_decide_eq_false h.2
    omega
  have hk1 : 1 ≤ K := by omega
  have hk2 : K ≤ 1000 := by omega
  have hq : IntKind.i64.wrap (((N : Int) + 64 - 1).tdiv 64) = (K : Int) := by
    rw [Int.tdiv_eq_ediv_of_nonneg (by omega)]
    rw [show ((N : Int) + 64 - 1) / 64 = (K : Int) by omega]
    exact wrap_i64 (by omega) (by omega)
  have hm : (List.replicate K (some zc)) = (List.replicate K zc).map some := by simp
  refine fnIs_of tab_ok Try.func9 rfl rfl rfl ?_
  refine wc_seq ?_
  refine wc_region ?_
  refine reg_new (step_C tab_ok (fun K hk => hk)) rfl ?_
  refine reg_quiet rfl (step_C tab_ok (fun K hk => hk)) ?_
  refine reg_nil ?_
  refine seq_n ?_
  refine wc_seq ?_
  refine wc_seq_cut 9 (.bool (badN (N : Int))) _ rfl ?_ ?_
  · refine reg_quiet rfl (step_C tab_ok (fun K hk => hk)) ?_
    refine reg_quiet rfl (step_C tab_ok (fun K hk => hk)) ?_
    refine reg_quiet rfl (step_C tab_ok (fun K hk => hk)) ?_
    refine reg_split rfl rfl rfl (fun hb => ?_) (fun hb => ?_)
    refine reg_on rfl rfl (by assumption) ?_
    refine reg_quiet rfl (step_C tab_ok (fun K hk => hk)) ?_
    refine reg_on rfl rfl (by assumption) ?_
    refine reg_quiet rfl (step_C tab_ok (fun K hk => hk)) ?_
    refine reg_quiet rfl (pick_F tab_ok rfl (by assumption) rfl) ?_
    rotate_left
    refine reg_skip rfl rfl (by assumption) rfl rfl ?_
    refine reg_skip rfl rfl (by assumption) rfl rfl ?_
    refine reg_quiet rfl (pick_T tab_ok rfl (by assumption) rfl) ?_
    rotate_left
    all_goals refine reg_cut 6 rfl rfl rfl rfl rfl rfl rfl rfl rfl (AVLe.of_eq ?_)
    all_goals (first | rfl | (clear q5; simp_all; done) | (simp_all; done) | (simp_all; omega))
  refine wc_false rfl (by assumption) ?_
  refine wc_skip ?_
  refine seq_n ?_
  refine wc_seq ?_
  refine wc_region ?_
  refine reg_quiet rfl (step_C tab_ok (fun K hk => hk)) ?_
  refine reg_quiet rfl (build_array tab_ok rfl rfl rfl) ?_
  refine reg_new (step_C tab_ok (fun K hk => hk)) rfl ?_
  refine reg_freeze (env' := [(13, _), (11, _), (3, _), (2, _), (0, _)]) (h' := [(64, some _)]) 144 _ rfl ⟨⟨_, rfl, Frz.ptr⟩, ⟨_, rfl, .refl _⟩, ⟨_, rfl, .refl _⟩, ⟨_, rfl, .refl _⟩, ⟨_, rfl, .refl _⟩, trivial⟩ ⟨⟨rfl, _, rfl, .refl _⟩, trivial⟩ ?_
  refine reg_new (build_slice tab_ok rfl rfl rfl rfl rfl rfl rfl rfl) rfl ?_
  refine reg_quiet rfl (step_C tab_ok (fun K hk => hk)) ?_
  refine reg_quiet rfl (add_int tab_ok rfl rfl (wrap_i64 (by omega) (by omega))) ?_
  refine reg_quiet rfl (sub_int tab_ok rfl rfl (wrap_i64 (by omega) (by omega))) ?_
  refine reg_quiet rfl (quo_int (m := ((K : Nat) : Int)) tab_ok rfl rfl (by decide) hq) ?_
  refine reg_freeze (env' := [(14, _), (18, _), (11, _), (3, _), (2, _), (0, _)]) (h' := [(64, some _)]) 152 _ rfl ⟨⟨_, rfl, Frz.lits1 (enc := encC) (some zc) rfl rfl⟩, ⟨_, rfl, .refl _⟩, ⟨_, rfl, .refl _⟩, ⟨_, rfl, .refl _⟩, ⟨_, rfl, .refl _⟩, ⟨_, rfl, .refl _⟩, trivial⟩ ⟨⟨rfl, _, rfl, .refl _⟩, trivial⟩ ?_
  refine reg_new (call_new (repeat_is K hk1 hk2) rfl rfl (arg_e (arg_e arg_nil)) (.inl rfl) rfl rfl) rfl ?_
  refine reg_freeze (env' := [(19, _), (11, _), (3, _), (2, _), (0, _)]) (h' := [(64, some _)]) 192 _ rfl ⟨⟨_, rfl, Frz.own (by simp)⟩, ⟨_, rfl, .refl _⟩, ⟨_, rfl, .refl _⟩, ⟨_, rfl, .refl _⟩, ⟨_, rfl, .refl _⟩, trivial⟩ ⟨⟨rfl, _, rfl, .refl _⟩, trivial⟩ ?_
  refine reg_quiet rfl (build_struct tab_ok rfl rfl rfl rfl) ?_
  refine reg_store (store_row tab_ok rfl rfl rfl ⟨_, ⟨rfl, rfl, rfl⟩, rfl⟩ rfl) ?_
  refine reg_quiet rfl (step_C tab_ok (fun K hk => hk)) ?_
  refine reg_nil ?_
  refine seq_n ?_
  refine wc_ret ?_
  exact ⟨trivial, _, rfl, [], .of rfl rfl rfl rfl rfl ⟨⟨_, rfl, AVLe.of_eq (by simp only [encDk, ← hm]; rfl)⟩, rfl, trivial⟩ trivial⟩
theorem encVer_size (v l : Vs) : (encVer v).size = (encVer l).size := by cases v <;> cases l <;> rfl
theorem encVer_agg (v l : Vs) : (encVer v).isAgg = (encVer l).isAgg := by cases v <;> cases l <;> rfl
theorem with_nil (d : Dk) (s : Nat) (th : Bool) (b : List Int) (c c2 : List Vs)  (hn : d.cs.length ≤ 1000) (hvl : ([] : Vs).length ≤ 1000000) (hch : 0 ≤ d.ch ∧ d.ch ≤ 1000000) (hs : s ≤ 1000000)
    (hc : d.cs[((s : Int).tdiv 64).toNat]? = some c) (hv : c[((s : Int).tmod 64).toNat]? = some []) (hc2 : c.set ((s : Int).tmod 64).toNat (⟨th, b⟩ :: []) = c2) :
    FnIs Try.prog 36 [.d (encDk d), .d (i6 s), .d (bo th), .d (.arr 1 encU8 b)] [] (.d (encDk ⟨d.n, d.ch + 1, d.cs.set ((s : Int).tdiv 64).toNat c2⟩)) [] := by
  subst hc2
  have q := tq (s := s)
  have hc' : (d.cs.map some)[((s : Int).tdiv 64).toNat]? = some (some c) := by rw [List.getElem?_map, hc]; rfl
  have hlt := (List.getElem?_eq_some_iff.1 hc).1
  have hltI : (s : Int).tdiv 64 < d.cs.length := by omega
  have hml : (d.cs.map some).length = d.cs.length := List.length_map ..
  have hmlI : ((d.cs.map some).length : Int) = d.cs.length := by rw [hml]
  have hlen : (d.cs.map some).length ≤ 1048576 := by omega
  have hl1 : 0 + (d.cs.map some).length ≤ (List.replicate (d.cs.map some).length (none : Option (List Vs))).length := by simp
  have hmin : min (d.cs.map some).length (d.cs.map some).length = (d.cs.map some).length := by simp
  have hl3 : (s : Int).tdiv 64 < (d.cs.map some).length := by omega
  have hpos : 0 < d.cs.length := by omega
  have hpos' : 0 < (d.cs.map some).length := by rw [hml]; exact hpos
  have hcp : (List.replicate (d.cs.map some).length (none : Option (List Vs))).take 0 ++ (d.cs.map some).take (d.cs.map some).length ++ (List.replicate (d.cs.map some).length (none : Option (List Vs))).drop (0 + (d.cs.map some).length) = d.cs.map some := by
    rw [List.take_zero, List.nil_append, List.take_of_length_le (l := d.cs.map some) (Nat.le_refl _)]
    simp
  have hset : (d.cs.set ((s : Int).tdiv 64).toNat (c.set ((s : Int).tmod 64).toNat [⟨th, b⟩])).map some = (d.cs.map some).set ((s : Int).tdiv 64).toNat (some (c.set ((s : Int).tmod 64).toNat [⟨th, b⟩])) := List.map_set ..
  refine fnIs_of tab_ok Try.func36 rfl rfl rfl ?_
  refine wc_seq ?_
  refine wc_region ?_
  refine reg_new (step_C tab_ok (fun K hk => hk)) rfl ?_
  refine reg_new (step_C tab_ok (fun K hk => hk)) rfl ?_
  refine reg_nil ?_
  refine seq_n ?_
  refine wc_seq ?_
  refine wc_region ?_
  refine reg_quiet rfl (step_C tab_ok (fun K hk => hk)) ?_
  refine reg_quiet rfl (load_box tab_ok rfl rfl ⟨_, rfl, rfl⟩ rfl) ?_
  refine reg_quiet rfl (step_C tab_ok (fun K hk => hk)) ?_
  refine reg_quiet rfl (quo_int tab_ok rfl rfl (by omega) (wrap_i64 (by omega) (by omega))) ?_
  refine reg_quiet rfl (index_arr (el := some c) tab_ok rfl rfl rfl rfl rfl (by omega) hc') ?_
  refine reg_quiet rfl (load_i tab_ok rfl rfl) ?_
  refine reg_quiet rfl (nilCheck_pt rfl) ?_
  refine reg_quiet rfl (load_i tab_ok rfl rfl) ?_
  refine reg_new (step_C tab_ok (fun K hk => hk)) rfl ?_
  refine reg_store (store_row tab_ok rfl rfl rfl ⟨_, ⟨rfl, rfl, rfl⟩, rfl⟩ rfl) ?_
  refine reg_nil ?_
  refine seq_n ?_
  refine wc_seq ?_
  refine wc_region ?_
  refine reg_quiet rfl (step_C tab_ok (fun K hk => hk)) ?_
  refine reg_quiet rfl (rem_int tab_ok rfl rfl (by omega)) ?_
  refine reg_quiet rfl (step_C tab_ok (fun K hk => ⟨by omega, by omega, hk⟩)) ?_
  refine reg_quiet rfl (load_box (v := .d (encVer [])) tab_ok rfl rfl ⟨encVer [], ⟨rfl, [], hv, rfl⟩, rfl⟩ (encVer_ok _)) ?_
  refine reg_quiet rfl (step_C tab_ok (fun K hk => hk)) ?_
  refine reg_nil ?_
  refine seq_n ?_
  refine wc_seq ?_
  refine wc_region ?_
  refine reg_quiet rfl (step_C tab_ok (fun K hk => hk)) ?_
  refine reg_quiet rfl (rem_int tab_ok rfl rfl (by omega)) ?_
  refine reg_quiet rfl (step_C tab_ok (fun K hk => hk)) ?_
  refine reg_quiet rfl (step_C tab_ok (fun K hk => hk)) ?_
  refine reg_quiet rfl (step_C tab_ok (fun K hk => hk)) ?_
  refine reg_quiet rfl (call_r (count_is []) rfl rfl (arg_e arg_nil) (.inl rfl) (fun _ => rfl)) ?_
  refine reg_quiet rfl (add_int tab_ok rfl rfl (wrap_i64 (by omega) (by omega))) ?_
  refine reg_quiet rfl (step_C tab_ok (fun K hk => hk)) ?_
  refine reg_quiet rfl (build_struct tab_ok rfl rfl rfl rfl) ?_
  refine reg_new (step_C tab_ok (fun K hk => hk)) rfl ?_
  refine reg_freeze (env' := [(33, _), (25, _), (9, _), (3, _), (2, _), (1, _), (0, _), (4, _), (8, _)]) (h' := [(64, some _), (72, some _), (144, some _)]) 272 _ rfl ⟨⟨_, rfl, Frz.ptr⟩, ⟨_, rfl, .refl _⟩, ⟨_, rfl, .refl _⟩, ⟨_, rfl, .refl _⟩, ⟨_, rfl, .refl _⟩, ⟨_, rfl, .refl _⟩, ⟨_, rfl, .refl _⟩, ⟨_, rfl, .refl _⟩, ⟨_, rfl, .refl _⟩, trivial⟩ ⟨⟨rfl, _, rfl, .refl _⟩, ⟨rfl, _, rfl, .refl _⟩, ⟨rfl, _, rfl, .refl _⟩, trivial⟩ ?_
  refine reg_quiet rfl (step_C tab_ok (fun K hk => ⟨by omega, by omega, hk⟩)) ?_
  refine reg_store (store_row tab_ok rfl rfl rfl ⟨_, ⟨_, ⟨rfl, [], ⟨th, b⟩ :: [], hv, ⟨rfl, rfl, rfl⟩, rfl⟩, rfl⟩, rfl⟩ (encVer_ok (⟨th, b⟩ :: []))) ?_
  refine reg_nil ?_
  refine seq_n ?_
  refine wc_seq ?_
  refine wc_region ?_
  refine reg_quiet rfl (step_C tab_ok (fun K hk => hk)) ?_
  refine reg_quiet rfl (load_box tab_ok rfl rfl ⟨_, rfl, rfl⟩ rfl) ?_
  refine reg_quiet rfl (len_arr tab_ok rfl rfl) ?_
  refine reg_new (make_full (enc := encC) (s := 1) (N := (d.cs.map some).length) tab_ok none rfl rfl rfl rfl rfl rfl rfl hlen rfl) rfl ?_
  refine reg_quiet rfl (step_C tab_ok (fun K hk => hk)) ?_
  refine reg_nil ?_
  refine seq_n ?_
  refine wc_seq ?_
  refine wc_region ?_
  refine reg_quiet rfl (step_C tab_ok (fun K hk => hk)) ?_
  refine reg_quiet rfl (step_C tab_ok (fun K hk => hk)) ?_
  refine reg_quiet rfl (load_box tab_ok rfl rfl ⟨_, rfl, rfl⟩ rfl) ?_
  refine reg_new (copy_at (enc := encC) (m := (d.cs.map some).length) (ys := d.cs.map some) tab_ok rfl rfl rfl rfl rfl rfl hl1 hmin hpos' hcp (src_arr (by decide) rfl hpos')) rfl ?_
  refine reg_nil ?_
  refine seq_n ?_
  refine wc_freeze (env' := [(11, _), (9, _), (1, _), (4, _), (8, _)]) (h' := [(64, some _), (72, some _), (320, some _)]) 144 _ rfl ⟨⟨_, rfl, .refl _⟩, ⟨_, rfl, Frz.ptr⟩, ⟨_, rfl, .refl _⟩, ⟨_, rfl, .refl _⟩, ⟨_, rfl, .refl _⟩, trivial⟩ ⟨⟨rfl, _, rfl, .refl _⟩, ⟨rfl, _, rfl, .refl _⟩, ⟨rfl, _, rfl, .refl _⟩, trivial⟩ ?_
  refine wc_seq ?_
  refine wc_region ?_
  refine reg_quiet rfl (step_C tab_ok (fun K hk => hk)) ?_
  refine reg_quiet rfl (step_C tab_ok (fun K hk => hk)) ?_
  refine reg_quiet rfl (quo_int tab_ok rfl rfl (by omega) (wrap_i64 (by omega) (by omega))) ?_
  refine reg_quiet rfl (index_own tab_ok rfl rfl rfl rfl rfl (by omega) (by omega)) ?_
  refine reg_store (store_row tab_ok rfl rfl rfl ⟨rfl, some c, some (c.set ((s : Int).tmod 64).toNat (⟨th, b⟩ :: [])), hc', ⟨rfl, rfl, rfl⟩, rfl⟩ rfl) ?_
  refine reg_nil ?_
  refine seq_n ?_
  refine wc_freeze (env' := [(11, _), (1, _), (4, _), (8, _)]) (h' := [(64, some _), (72, some _)]) 320 _ rfl ⟨⟨_, rfl, Frz.own (by simp)⟩, ⟨_, rfl, .refl _⟩, ⟨_, rfl, .refl _⟩, ⟨_, rfl, .refl _⟩, trivial⟩ ⟨⟨rfl, _, rfl, .refl _⟩, ⟨rfl, _, rfl, .refl _⟩, trivial⟩ ?_
  refine wc_seq ?_
  refine wc_region ?_
  refine reg_quiet rfl (step_C tab_ok (fun K hk => hk)) ?_
  refine reg_quiet rfl (load_box tab_ok rfl rfl ⟨_, rfl, rfl⟩ rfl) ?_
  refine reg_quiet rfl (step_C tab_ok (fun K hk => hk)) ?_
  refine reg_quiet rfl (load_box tab_ok rfl rfl ⟨_, rfl, rfl⟩ rfl) ?_
  refine reg_quiet rfl (add_int tab_ok rfl rfl (wrap_i64 (by omega) (by omega))) ?_
  refine reg_quiet rfl (step_C tab_ok (fun K hk => hk)) ?_
  refine reg_quiet rfl (build_struct tab_ok rfl rfl rfl rfl) ?_
  refine reg_store (store_row tab_ok rfl rfl rfl ⟨_, ⟨rfl, rfl, rfl⟩, rfl⟩ rfl) ?_
  refine reg_nil ?_
  refine seq_n ?_
  refine wc_ret ?_
  exact ⟨trivial, _, rfl, [], .of rfl rfl rfl rfl rfl ⟨⟨_, rfl, AVLe.of_eq (by simp only [encDk, hset]; rfl)⟩, rfl, trivial⟩ trivial⟩
theorem with_cons (d : Dk) (s : Nat) (th : Bool) (b : List Int) (c c2 : List Vs) (x : Ver) (l : Vs) (hn : d.cs.length ≤ 1000) (hvl : ((x :: l) : Vs).length ≤ 1000000) (hch : 0 ≤ d.ch ∧ d.ch ≤ 1000000) (hs : s ≤ 1000000)
    (hc : d.cs[((s : Int).tdiv 64).toNat]? = some c) (hv : c[((s : Int).tmod 64).toNat]? = some (x :: l)) (hc2 : c.set ((s : Int).tmod 64).toNat (⟨th, b⟩ :: (x :: l)) = c2) :
    FnIs Try.prog 36 [.d (encDk d), .d (i6 s), .d (bo th), .d (.arr 1 encU8 b)] [] (.d (encDk ⟨d.n, d.ch + 1, d.cs.set ((s : Int).tdiv 64).toNat c2⟩)) [] := by
  subst hc2
  have q := tq (s := s)
  have hc' : (d.cs.map some)[((s : Int).tdiv 64).toNat]? = some (some c) := by rw [List.getElem?_map, hc]; rfl
  have hlt := (List.getElem?_eq_some_iff.1 hc).1
  have hltI : (s : Int).tdiv 64 < d.cs.length := by omega
  have hml : (d.cs.map some).length = d.cs.length := List.length_map ..
  have hmlI : ((d.cs.map some).length : Int) = d.cs.length := by rw [hml]
  have hlen : (d.cs.map some).length ≤ 1048576 := by omega
  have hl1 : 0 + (d.cs.map some).length ≤ (List.replicate (d.cs.map some).length (none : Option (List Vs))).length := by simp
  have hmin : min (d.cs.map some).length (d.cs.map some).length = (d.cs.map some).length := by simp
  have hl3 : (s : Int).tdiv 64 < (d.cs.map some).length := by omega
  have hpos : 0 < d.cs.length := by omega
  have hpos' : 0 < (d.cs.map some).length := by rw [hml]; exact hpos
  have hcp : (List.replicate (d.cs.map some).length (none : Option (List Vs))).take 0 ++ (d.cs.map some).take (d.cs.map some).length ++ (List.replicate (d.cs.map some).length (none : Option (List Vs))).drop (0 + (d.cs.map some).length) = d.cs.map some := by
    rw [List.take_zero, List.nil_append, List.take_of_length_le (l := d.cs.map some) (Nat.le_refl _)]
    simp
  have hset : (d.cs.set ((s : Int).tdiv 64).toNat (c.set ((s : Int).tmod 64).toNat (⟨th, b⟩ :: x :: l))).map some = (d.cs.map some).set ((s : Int).tdiv 64).toNat (some (c.set ((s : Int).tmod 64).toNat (⟨th, b⟩ :: x :: l))) := List.map_set ..
  refine fnIs_of tab_ok Try.func36 rfl rfl rfl ?_
  refine wc_seq ?_
  refine wc_region ?_
  refine reg_new (step_C tab_ok (fun K hk => hk)) rfl ?_
  refine reg_new (step_C tab_ok (fun K hk => hk)) rfl ?_
  refine reg_nil ?_
  refine seq_n ?_
  refine wc_seq ?_
  refine wc_region ?_
  refine reg_quiet rfl (step_C tab_ok (fun K hk => hk)) ?_
  refine reg_quiet rfl (load_box tab_ok rfl rfl ⟨_, rfl, rfl⟩ rfl) ?_
  refine reg_quiet rfl (step_C tab_ok (fun K hk => hk)) ?_
  refine reg_quiet rfl (quo_int tab_ok rfl rfl (by omega) (wrap_i64 (by omega) (by omega))) ?_
  refine reg_quiet rfl (index_arr (el := some c) tab_ok rfl rfl rfl rfl rfl (by omega) hc') ?_
  refine reg_quiet rfl (load_i tab_ok rfl rfl) ?_
  refine reg_quiet rfl (nilCheck_pt rfl) ?_
  refine reg_quiet rfl (load_i tab_ok rfl rfl) ?_
  refine reg_new (step_C tab_ok (fun K hk => hk)) rfl ?_
  refine reg_store (store_row tab_ok rfl rfl rfl ⟨_, ⟨rfl, rfl, rfl⟩, rfl⟩ rfl) ?_
  refine reg_nil ?_
  refine seq_n ?_
  refine wc_seq ?_
  refine wc_region ?_
  refine reg_quiet rfl (step_C tab_ok (fun K hk => hk)) ?_
  refine reg_quiet rfl (rem_int tab_ok rfl rfl (by omega)) ?_
  refine reg_quiet rfl (step_C tab_ok (fun K hk => ⟨by omega, by omega, hk⟩)) ?_
  refine reg_quiet rfl (load_box (v := .d (encVer (x :: l))) tab_ok rfl rfl ⟨encVer (x :: l), ⟨rfl, (x :: l), hv, rfl⟩, rfl⟩ (encVer_ok _)) ?_
  refine reg_quiet rfl (step_C tab_ok (fun K hk => hk)) ?_
  refine reg_nil ?_
  refine seq_n ?_
  refine wc_seq ?_
  refine wc_region ?_
  refine reg_quiet rfl (step_C tab_ok (fun K hk => hk)) ?_
  refine reg_quiet rfl (rem_int tab_ok rfl rfl (by omega)) ?_
  refine reg_quiet rfl (step_C tab_ok (fun K hk => hk)) ?_
  refine reg_quiet rfl (step_C tab_ok (fun K hk => hk)) ?_
  refine reg_quiet rfl (step_C tab_ok (fun K hk => hk)) ?_
  refine reg_quiet rfl (call_r (count_is (x :: l)) rfl rfl (arg_e arg_nil) (.inl rfl) (fun _ => rfl)) ?_
  refine reg_quiet rfl (add_int tab_ok rfl rfl (wrap_i64 (by omega) (by omega))) ?_
  refine reg_quiet rfl (step_C tab_ok (fun K hk => hk)) ?_
  refine reg_quiet rfl (build_struct tab_ok rfl rfl rfl rfl) ?_
  refine reg_new (step_C tab_ok (fun K hk => hk)) rfl ?_
  refine reg_freeze (env' := [(33, _), (25, _), (9, _), (3, _), (2, _), (1, _), (0, _), (4, _), (8, _)]) (h' := [(64, some _), (72, some _), (144, some _)]) 272 _ rfl ⟨⟨_, rfl, Frz.ptr⟩, ⟨_, rfl, .refl _⟩, ⟨_, rfl, .refl _⟩, ⟨_, rfl, .refl _⟩, ⟨_, rfl, .refl _⟩, ⟨_, rfl, .refl _⟩, ⟨_, rfl, .refl _⟩, ⟨_, rfl, .refl _⟩, ⟨_, rfl, .refl _⟩, trivial⟩ ⟨⟨rfl, _, rfl, .refl _⟩, ⟨rfl, _, rfl, .refl _⟩, ⟨rfl, _, rfl, .refl _⟩, trivial⟩ ?_
  refine reg_quiet rfl (step_C tab_ok (fun K hk => ⟨by omega, by omega, hk⟩)) ?_
  refine reg_store (store_row tab_ok rfl rfl rfl ⟨_, ⟨_, ⟨rfl, (x :: l), ⟨th, b⟩ :: (x :: l), hv, ⟨rfl, rfl, rfl⟩, rfl⟩, rfl⟩, rfl⟩ (encVer_ok (⟨th, b⟩ :: (x :: l)))) ?_
  refine reg_nil ?_
  refine seq_n ?_
  refine wc_seq ?_
  refine wc_region ?_
  refine reg_quiet rfl (step_C tab_ok (fun K hk => hk)) ?_
  refine reg_quiet rfl (load_box tab_ok rfl rfl ⟨_, rfl, rfl⟩ rfl) ?_
  refine reg_quiet rfl (len_arr tab_ok rfl rfl) ?_
  refine reg_new (make_full (enc := encC) (s := 1) (N := (d.cs.map some).length) tab_ok none rfl rfl rfl rfl rfl rfl rfl hlen rfl) rfl ?_
  refine reg_quiet rfl (step_C tab_ok (fun K hk => hk)) ?_
  refine reg_nil ?_
  refine seq_n ?_
  refine wc_seq ?_
  refine wc_region ?_
  refine reg_quiet rfl (step_C tab_ok (fun K hk => hk)) ?_
  refine reg_quiet rfl (step_C tab_ok (fun K hk => hk)) ?_
  refine reg_quiet rfl (load_box tab_ok rfl rfl ⟨_, rfl, rfl⟩ rfl) ?_
  refine reg_new (copy_at (enc := encC) (m := (d.cs.map some).length) (ys := d.cs.map some) tab_ok rfl rfl rfl rfl rfl rfl hl1 hmin hpos' hcp (src_arr (by decide) rfl hpos')) rfl ?_
  refine reg_nil ?_
  refine seq_n ?_
  refine wc_freeze (env' := [(11, _), (9, _), (1, _), (4, _), (8, _)]) (h' := [(64, some _), (72, some _), (320, some _)]) 144 _ rfl ⟨⟨_, rfl, .refl _⟩, ⟨_, rfl, Frz.ptr⟩, ⟨_, rfl, .refl _⟩, ⟨_, rfl, .refl _⟩, ⟨_, rfl, .refl _⟩, trivial⟩ ⟨⟨rfl, _, rfl, .refl _⟩, ⟨rfl, _, rfl, .refl _⟩, ⟨rfl, _, rfl, .refl _⟩, trivial⟩ ?_
  refine wc_seq ?_
  refine wc_region ?_
  refine reg_quiet rfl (step_C tab_ok (fun K hk => hk)) ?_
  refine reg_quiet rfl (step_C tab_ok (fun K hk => hk)) ?_
  refine reg_quiet rfl (quo_int tab_ok rfl rfl (by omega) (wrap_i64 (by omega) (by omega))) ?_
  refine reg_quiet rfl (index_own tab_ok rfl rfl rfl rfl rfl (by omega) (by omega)) ?_
  refine reg_store (store_row tab_ok rfl rfl rfl ⟨rfl, some c, some (c.set ((s : Int).tmod 64).toNat (⟨th, b⟩ :: (x :: l))), hc', ⟨rfl, rfl, rfl⟩, rfl⟩ rfl) ?_
  refine reg_nil ?_
  refine seq_n ?_
  refine wc_freeze (env' := [(11, _), (1, _), (4, _), (8, _)]) (h' := [(64, some _), (72, some _)]) 320 _ rfl ⟨⟨_, rfl, Frz.own (by simp)⟩, ⟨_, rfl, .refl _⟩, ⟨_, rfl, .refl _⟩, ⟨_, rfl, .refl _⟩, trivial⟩ ⟨⟨rfl, _, rfl, .refl _⟩, ⟨rfl, _, rfl, .refl _⟩, trivial⟩ ?_
  refine wc_seq ?_
  refine wc_region ?_
  refine reg_quiet rfl (step_C tab_ok (fun K hk => hk)) ?_
  refine reg_quiet rfl (load_box tab_ok rfl rfl ⟨_, rfl, rfl⟩ rfl) ?_
  refine reg_quiet rfl (step_C tab_ok (fun K hk => hk)) ?_
  refine reg_quiet rfl (load_box tab_ok rfl rfl ⟨_, rfl, rfl⟩ rfl) ?_
  refine reg_quiet rfl (add_int tab_ok rfl rfl (wrap_i64 (by omega) (by omega))) ?_
  refine reg_quiet rfl (step_C tab_ok (fun K hk => hk)) ?_
  refine reg_quiet rfl (build_struct tab_ok rfl rfl rfl rfl) ?_
  refine reg_store (store_row tab_ok rfl rfl rfl ⟨_, ⟨rfl, rfl, rfl⟩, rfl⟩ rfl) ?_
  refine reg_nil ?_
  refine seq_n ?_
  refine wc_ret ?_
  exact ⟨trivial, _, rfl, [], .of rfl rfl rfl rfl rfl ⟨⟨_, rfl, AVLe.of_eq (by simp only [encDk, hset]; rfl)⟩, rfl, trivial⟩ trivial⟩
theorem with_is (d : Dk) (s : Nat) (th : Bool) (b : List Int) (c c2 : List Vs) (v : Vs) (hn : d.cs.length ≤ 1000) (hvl : v.length ≤ 1000000) (hch : 0 ≤ d.ch ∧ d.ch ≤ 1000000) (hs : s ≤ 1000000)
    (hc : d.cs[((s : Int).tdiv 64).toNat]? = some c) (hv : c[((s : Int).tmod 64).toNat]? = some v) (hc2 : c.set ((s : Int).tmod 64).toNat (⟨th, b⟩ :: v) = c2) :
    FnIs Try.prog 36 [.d (encDk d), .d (i6 s), .d (bo th), .d (.arr 1 encU8 b)] [] (.d (encDk ⟨d.n, d.ch + 1, d.cs.set ((s : Int).tdiv 64).toNat c2⟩)) [] := by
  cases v with
  | nil => exact with_nil d s th b c c2 hn hvl hch hs hc hv hc2
  | cons x l => exact with_cons d s th b c c2 x l hn hvl hch hs hc hv hc2
end Go.Proofs.Ytfmemklkkmiicaa

/- Disks: the functions of a disk. -/
namespace Go.Proofs.Ytfmemklkkmiicaa
open Go.Eng
set_option maxHeartbeats 2000000
attribute [local irreducible] WC RegS RegD SeqQ BlkQ ScoQ RegK CutK Sat SatN FnIs LoopQ StepIs OpIs
/-- A sector that the disk has: its chunk, and its versions. -/
structure At (d : Dk) (s : Nat) (c : List Vs) (v : Vs) : Prop where
  lt : (s : Int) < d.n
  n : d.n ≤ 10922
  cs : d.cs.length ≤ 1000
  ch : 0 ≤ d.ch ∧ d.ch ≤ 1000000
  vl : v.length ≤ 1000000
  b : ∀ x ∈ v, x.b.length ≤ 1000000
  hc : d.cs[((s : Int).tdiv 64).toNat]? = some c
  hv : c[((s : Int).tmod 64).toNat]? = some v
theorem At.new {d : Dk} {s : Nat} {c : List Vs} {v : Vs} (h : At d s c v) : FnIs Try.prog 34 [.d (encDk d), .d (i6 s)] [] (tup2 (encVer v) (i6 0)) [] := newest_ok d s c v h.lt h.n h.hc h.hv
/-- The disk with one more version. -/
def put (d : Dk) (s : Nat) (c : List Vs) (v : Vs) (x : Ver) : Dk := ⟨d.n, d.ch + 1, d.cs.set ((s : Int).tdiv 64).toNat (c.set ((s : Int).tmod 64).toNat (x :: v))⟩
theorem At.with {d : Dk} {s : Nat} {c : List Vs} {v : Vs} (h : At d s c v) (x : Ver) : FnIs Try.prog 36 [.d (encDk d), .d (i6 s), .d (bo x.there), .d (.arr 1 encU8 x.b)] [] (.d (encDk (put d s c v x))) [] :=
  with_is d s x.there x.b c _ v h.cs h.vl h.ch (by have := h.lt; have := h.n; omega) h.hc h.hv rfl
abbrev outB (d : Dk) (s : Int) : Bool := decide (s < 0) || decide (s ≥ d.n)
abbrev leaf1 : True := trivial
theorem contR_cases (v : Vs) : (∃ b l, v = ⟨true, b⟩ :: l ∧ contR v = tup2 (.arx 1 encU8 b) (i6 0)) ∨ contR v = tup2 (.sc nil_) (i6 11) := by
  match v with
  | [] => exact .inr rfl
  | ⟨false, b⟩ :: l => exact .inr rfl
  | ⟨true, b⟩ :: l => exact .inl ⟨b, l, rfl, rfl⟩
theorem read_bad (d : Dk) (s : Int) (h : outB d s = true) : FnIs Try.prog 18 [.d (encDk d), .d (i6 s)] [] (tup2 (.sc nil_) (i6 1)) [] := by
  refine fnIs_of tab_ok Try.func18 rfl rfl rfl ?_
  refine wc_seq ?_
  refine wc_region ?_
  refine reg_new (step_C tab_ok (fun K hk => hk)) rfl ?_
  refine reg_quiet rfl (step_C tab_ok (fun K hk => hk)) ?_
  refine reg_quiet rfl (step_C tab_ok (fun K hk => hk)) ?_
  refine reg_nil ?_
  refine seq_n ?_
  refine wc_seq ?_
  refine wc_region ?_
  refine reg_quiet rfl (load_box tab_ok rfl rfl rfl rfl) ?_
  refine reg_quiet rfl (step_C tab_ok (fun K hk => hk)) ?_
  refine reg_quiet rfl (call_r (newest_bad d s h) rfl rfl (arg_e (arg_e arg_nil)) (.inl rfl) (fun _ => rfl)) ?_
  refine reg_quiet rfl (step_C tab_ok (fun K hk => hk)) ?_
  refine reg_quiet rfl (step_C tab_ok (fun K hk => hk)) ?_
  refine reg_quiet rfl (step_C tab_ok (fun K hk => hk)) ?_
  refine reg_quiet rfl (step_C tab_ok (fun K hk => hk)) ?_
  refine reg_quiet rfl (step_C tab_ok (fun K hk => hk)) ?_
  refine reg_nil ?_
  refine seq_n ?_
  refine wc_seq ?_
  refine wc_seq ?_
  refine wc_region ?_
  refine reg_quiet rfl (step_C tab_ok (fun K hk => hk)) ?_
  refine reg_quiet rfl (step_C tab_ok (fun K hk => hk)) ?_
  refine reg_nil ?_
  refine seq_n ?_
  refine wc_true rfl rfl ?_
  refine wc_seq ?_
  refine wc_region ?_
  refine reg_quiet rfl (step_C tab_ok (fun K hk => hk)) ?_
  refine reg_quiet rfl (step_C tab_ok (fun K hk => hk)) ?_
  refine reg_quiet rfl (step_C tab_ok (fun K hk => hk)) ?_
  refine reg_nil ?_
  refine seq_n ?_
  refine wc_ret ?_
  refine seq_r ?_
  exact ⟨trivial, [], .of rfl rfl rfl rfl rfl ⟨⟨_, rfl, AVLe.of_eq rfl⟩, rfl, trivial⟩ trivial⟩
theorem versions_bad (d : Dk) (s : Int) (h : outB d s = true) : FnIs Try.prog 24 [.d (encDk d), .d (i6 s)] [] (tup2 (i6 0) (i6 1)) [] := by
  refine fnIs_of tab_ok Try.func24 rfl rfl rfl ?_
  refine wc_seq ?_
  refine wc_region ?_
  refine reg_new (step_C tab_ok (fun K hk => hk)) rfl ?_
  refine reg_quiet rfl (step_C tab_ok (fun K hk => hk)) ?_
  refine reg_quiet rfl (step_C tab_ok (fun K hk => hk)) ?_
  refine reg_nil ?_
  refine seq_n ?_
  refine wc_seq ?_
  refine wc_region ?_
  refine reg_quiet rfl (load_box tab_ok rfl rfl rfl rfl) ?_
  refine reg_quiet rfl (step_C tab_ok (fun K hk => hk)) ?_
  refine reg_quiet rfl (call_r (newest_bad d s h) rfl rfl (arg_e (arg_e arg_nil)) (.inl rfl) (fun _ => rfl)) ?_
  refine reg_quiet rfl (step_C tab_ok (fun K hk => hk)) ?_
  refine reg_quiet rfl (step_C tab_ok (fun K hk => hk)) ?_
  refine reg_quiet rfl (step_C tab_ok (fun K hk => hk)) ?_
  refine reg_quiet rfl (step_C tab_ok (fun K hk => hk)) ?_
  refine reg_quiet rfl (step_C tab_ok (fun K hk => hk)) ?_
  refine reg_nil ?_
  refine seq_n ?_
  refine wc_seq ?_
  refine wc_seq ?_
  refine wc_region ?_
  refine reg_quiet rfl (step_C tab_ok (fun K hk => hk)) ?_
  refine reg_quiet rfl (step_C tab_ok (fun K hk => hk)) ?_
  refine reg_nil ?_
  refine seq_n ?_
  refine wc_true rfl rfl ?_
  refine wc_seq ?_
  refine wc_region ?_
  refine reg_quiet rfl (step_C tab_ok (fun K hk => hk)) ?_
  refine reg_quiet rfl (step_C tab_ok (fun K hk => hk)) ?_
  refine reg_quiet rfl (step_C tab_ok (fun K hk => hk)) ?_
  refine reg_nil ?_
  refine seq_n ?_
  refine wc_ret ?_
  refine seq_r ?_
  exact ⟨trivial, [], .of rfl rfl rfl rfl rfl ⟨⟨_, rfl, AVLe.of_eq rfl⟩, rfl, trivial⟩ trivial⟩
theorem erase_bad (d : Dk) (s : Int) (h : outB d s = true) : FnIs Try.prog 22 [.d (encDk d), .d (i6 s)] [] (tup2 (encDk zeroK) (i6 1)) [] := by
  refine fnIs_of tab_ok Try.func22 rfl rfl rfl ?_
  refine wc_seq ?_
  refine wc_region ?_
  refine reg_new (step_C tab_ok (fun K hk => hk)) rfl ?_
  refine reg_new (step_C tab_ok (fun K hk => hk)) rfl ?_
  refine reg_quiet rfl (step_C tab_ok (fun K hk => hk)) ?_
  refine reg_nil ?_
  refine seq_n ?_
  refine wc_seq ?_
  refine wc_seq ?_
  refine wc_region ?_
  refine reg_quiet rfl (load_box tab_ok rfl rfl rfl rfl) ?_
  refine reg_quiet rfl (step_C tab_ok (fun K hk => hk)) ?_
  refine reg_quiet rfl (call_r (newest_bad d s h) rfl rfl (arg_e (arg_e arg_nil)) (.inl rfl) (fun _ => rfl)) ?_
  refine reg_quiet rfl (step_C tab_ok (fun K hk => hk)) ?_
  refine reg_quiet rfl (step_C tab_ok (fun K hk => hk)) ?_
  refine reg_quiet rfl (step_C tab_ok (fun K hk => hk)) ?_
  refine reg_quiet rfl (step_C tab_ok (fun K hk => hk)) ?_
  refine reg_quiet rfl (step_C tab_ok (fun K hk => hk)) ?_
  refine reg_nil ?_
  refine seq_n ?_
  refine wc_seq ?_
  refine wc_region ?_
  refine reg_quiet rfl (step_C tab_ok (fun K hk => hk)) ?_
  refine reg_quiet rfl (step_C tab_ok (fun K hk => hk)) ?_
  refine reg_nil ?_
  refine seq_n ?_
  refine wc_true rfl rfl ?_
  refine wc_seq ?_
  refine wc_region ?_
  refine reg_quiet rfl (build_struct tab_ok rfl rfl rfl rfl) ?_
  refine reg_quiet rfl (step_C tab_ok (fun K hk => hk)) ?_
  refine reg_store (store_row tab_ok rfl rfl rfl ⟨_, ⟨rfl, rfl, rfl⟩, rfl⟩ rfl) ?_
  refine reg_quiet rfl (step_C tab_ok (fun K hk => hk)) ?_
  refine reg_nil ?_
  refine seq_n ?_
  refine wc_ret ?_
  refine seq_r ?_
  exact ⟨trivial, _, rfl, [], .of rfl rfl rfl rfl rfl ⟨⟨_, rfl, AVLe.tup1 zero_le rfl⟩, rfl, trivial⟩ trivial⟩
theorem read_ok (d : Dk) (s : Nat) (c : List Vs) (v : Vs) (h : At d s c v) : FnIs Try.prog 18 [.d (encDk d), .d (i6 s)] [] (contR v) [] := by
  have hN := h.new
  have hC := content_is v h.b
  rcases contR_cases v with ⟨b, l, _, hr⟩ | hr
  · rw [hr] at hC ⊢
    refine fnIs_of tab_ok Try.func18 rfl rfl rfl ?_
    refine wc_seq ?_
    refine wc_region ?_
    refine reg_new (step_C tab_ok (fun K hk => hk)) rfl ?_
    refine reg_quiet rfl (step_C tab_ok (fun K hk => hk)) ?_
    refine reg_quiet rfl (step_C tab_ok (fun K hk => hk)) ?_
    refine reg_nil ?_
    refine seq_n ?_
    refine wc_seq ?_
    refine wc_region ?_
    refine reg_quiet rfl (load_box tab_ok rfl rfl rfl rfl) ?_
    refine reg_quiet rfl (step_C tab_ok (fun K hk => hk)) ?_
    refine reg_quiet rfl (call_r hN rfl rfl (arg_e (arg_e arg_nil)) (.inl rfl) (fun _ => rfl)) ?_
    refine reg_quiet rfl (step_C tab_ok (fun K hk => hk)) ?_
    refine reg_quiet rfl (step_C tab_ok (fun K hk => hk)) ?_
    refine reg_quiet rfl (step_C tab_ok (fun K hk => hk)) ?_
    refine reg_quiet rfl (step_C tab_ok (fun K hk => hk)) ?_
    refine reg_quiet rfl (step_C tab_ok (fun K hk => hk)) ?_
    refine reg_nil ?_
    refine seq_n ?_
    refine wc_seq ?_
    refine wc_seq ?_
    refine wc_region ?_
    refine reg_quiet rfl (step_C tab_ok (fun K hk => hk)) ?_
    refine reg_quiet rfl (step_C tab_ok (fun K hk => hk)) ?_
    refine reg_nil ?_
    refine seq_n ?_
    refine wc_false rfl rfl ?_
    refine wc_skip ?_
    refine seq_n ?_
    refine wc_seq ?_
    refine wc_region ?_
    refine reg_quiet rfl (step_C tab_ok (fun K hk => hk)) ?_
    refine reg_quiet rfl (call_r hC rfl rfl (arg_e arg_nil) (.inl rfl) (fun _ => rfl)) ?_
    refine reg_quiet rfl (step_C tab_ok (fun K hk => hk)) ?_
    refine reg_quiet rfl (step_C tab_ok (fun K hk => hk)) ?_
    refine reg_quiet rfl (step_C tab_ok (fun K hk => hk)) ?_
    refine reg_quiet rfl (step_C tab_ok (fun K hk => hk)) ?_
    refine reg_nil ?_
    refine seq_n ?_
    refine wc_ret ?_
    exact ⟨trivial, [], .of rfl rfl rfl rfl rfl ⟨⟨_, rfl, AVLe.of_eq rfl⟩, rfl, trivial⟩ trivial⟩
  · rw [hr] at hC ⊢
    refine fnIs_of tab_ok Try.func18 rfl rfl rfl ?_
    refine wc_seq ?_
    refine wc_region ?_
    refine reg_new (step_C tab_ok (fun K hk => hk)) rfl ?_
    refine reg_quiet rfl (step_C tab_ok (fun K hk => hk)) ?_
    refine reg_quiet rfl (step_C tab_ok (fun K hk => hk)) ?_
    refine reg_nil ?_
    refine seq_n ?_
    refine wc_seq ?_
    refine wc_region ?_
    refine reg_quiet rfl (load_box tab_ok rfl rfl rfl rfl) ?_
    refine reg_quiet rfl (step_C tab_ok (fun K hk => hk)) ?_
    refine reg_quiet rfl (call_r hN rfl rfl (arg_e (arg_e arg_nil)) (.inl rfl) (fun _ => rfl)) ?_
    refine reg_quiet rfl (step_C tab_ok (fun K hk => hk)) ?_
    refine reg_quiet rfl (step_C tab_ok (fun K hk => hk)) ?_
    refine reg_quiet rfl (step_C tab_ok (fun K hk => hk)) ?_
    refine reg_quiet rfl (step_C tab_ok (fun K hk => hk)) ?_
    refine reg_quiet rfl (step_C tab_ok (fun K hk => hk)) ?_
    refine reg_nil ?_
    refine seq_n ?_
    refine wc_seq ?_
    refine wc_seq ?_
    refine wc_region ?_
    refine reg_quiet rfl (step_C tab_ok (fun K hk => hk)) ?_
    refine reg_quiet rfl (step_C tab_ok (fun K hk => hk)) ?_
    refine reg_nil ?_
    refine seq_n ?_
    refine wc_false rfl rfl ?_
    refine wc_skip ?_
    refine seq_n ?_
    refine wc_seq ?_
    refine wc_region ?_
    refine reg_quiet rfl (step_C tab_ok (fun K hk => hk)) ?_
    refine reg_quiet rfl (call_r hC rfl rfl (arg_e arg_nil) (.inl rfl) (fun _ => rfl)) ?_
    refine reg_quiet rfl (step_C tab_ok (fun K hk => hk)) ?_
    refine reg_quiet rfl (step_C tab_ok (fun K hk => hk)) ?_
    refine reg_quiet rfl (step_C tab_ok (fun K hk => hk)) ?_
    refine reg_quiet rfl (step_C tab_ok (fun K hk => hk)) ?_
    refine reg_nil ?_
    refine seq_n ?_
    refine wc_ret ?_
    exact ⟨trivial, [], .of rfl rfl rfl rfl rfl ⟨⟨_, rfl, AVLe.of_eq rfl⟩, rfl, trivial⟩ trivial⟩
theorem versions_ok (d : Dk) (s : Nat) (c : List Vs) (v : Vs) (h : At d s c v) : FnIs Try.prog 24 [.d (encDk d), .d (i6 s)] [] (tup2 (i6 v.length) (i6 0)) [] := by
  have hN := h.new
  refine fnIs_of tab_ok Try.func24 rfl rfl rfl ?_
  refine wc_seq ?_
  refine wc_region ?_
  refine reg_new (step_C tab_ok (fun K hk => hk)) rfl ?_
  refine reg_quiet rfl (step_C tab_ok (fun K hk => hk)) ?_
  refine reg_quiet rfl (step_C tab_ok (fun K hk => hk)) ?_
  refine reg_nil ?_
  refine seq_n ?_
  refine wc_seq ?_
  refine wc_region ?_
  refine reg_quiet rfl (load_box tab_ok rfl rfl rfl rfl) ?_
  refine reg_quiet rfl (step_C tab_ok (fun K hk => hk)) ?_
  refine reg_quiet rfl (call_r hN rfl rfl (arg_e (arg_e arg_nil)) (.inl rfl) (fun _ => rfl)) ?_
  refine reg_quiet rfl (step_C tab_ok (fun K hk => hk)) ?_
  refine reg_quiet rfl (step_C tab_ok (fun K hk => hk)) ?_
  refine reg_quiet rfl (step_C tab_ok (fun K hk => hk)) ?_
  refine reg_quiet rfl (step_C tab_ok (fun K hk => hk)) ?_
  refine reg_quiet rfl (step_C tab_ok (fun K hk => hk)) ?_
  refine reg_nil ?_
  refine seq_n ?_
  refine wc_seq ?_
  refine wc_seq ?_
  refine wc_region ?_
  refine reg_quiet rfl (step_C tab_ok (fun K hk => hk)) ?_
  refine reg_quiet rfl (step_C tab_ok (fun K hk => hk)) ?_
  refine reg_nil ?_
  refine seq_n ?_
  refine wc_false rfl rfl ?_
  refine wc_skip ?_
  refine seq_n ?_
  refine wc_seq ?_
  refine wc_region ?_
  refine reg_quiet rfl (step_C tab_ok (fun K hk => hk)) ?_
  refine reg_quiet rfl (call_r (count_is v) rfl rfl (arg_e arg_nil) (.inl rfl) (fun _ => rfl)) ?_
  refine reg_quiet rfl (step_C tab_ok (fun K hk => hk)) ?_
  refine reg_quiet rfl (step_C tab_ok (fun K hk => hk)) ?_
  refine reg_nil ?_
  refine seq_n ?_
  refine wc_ret ?_
  exact ⟨trivial, [], .of rfl rfl rfl rfl rfl ⟨⟨_, rfl, AVLe.of_eq rfl⟩, rfl, trivial⟩ trivial⟩
theorem erase_ok (d : Dk) (s : Nat) (c : List Vs) (v : Vs) (h : At d s c v) : FnIs Try.prog 22 [.d (encDk d), .d (i6 s)] [] (tup2 (encDk (put d s c v ⟨false, []⟩)) (i6 0)) [] := by
  have hN := h.new
  refine fnIs_of tab_ok Try.func22 rfl rfl rfl ?_
  refine wc_seq ?_
  refine wc_region ?_
  refine reg_new (step_C tab_ok (fun K hk => hk)) rfl ?_
  refine reg_new (step_C tab_ok (fun K hk => hk)) rfl ?_
  refine reg_quiet rfl (step_C tab_ok (fun K hk => hk)) ?_
  refine reg_nil ?_
  refine seq_n ?_
  refine wc_seq ?_
  refine wc_seq ?_
  refine wc_region ?_
  refine reg_quiet rfl (load_box tab_ok rfl rfl rfl rfl) ?_
  refine reg_quiet rfl (step_C tab_ok (fun K hk => hk)) ?_
  refine reg_quiet rfl (call_r hN rfl rfl (arg_e (arg_e arg_nil)) (.inl rfl) (fun _ => rfl)) ?_
  refine reg_quiet rfl (step_C tab_ok (fun K hk => hk)) ?_
  refine reg_quiet rfl (step_C tab_ok (fun K hk => hk)) ?_
  refine reg_quiet rfl (step_C tab_ok (fun K hk => hk)) ?_
  refine reg_quiet rfl (step_C tab_ok (fun K hk => hk)) ?_
  refine reg_quiet rfl (step_C tab_ok (fun K hk => hk)) ?_
  refine reg_nil ?_
  refine seq_n ?_
  refine wc_seq ?_
  refine wc_region ?_
  refine reg_quiet rfl (step_C tab_ok (fun K hk => hk)) ?_
  refine reg_quiet rfl (step_C tab_ok (fun K hk => hk)) ?_
  refine reg_nil ?_
  refine seq_n ?_
  refine wc_false rfl rfl ?_
  refine wc_skip ?_
  refine seq_n ?_
  refine wc_seq ?_
  refine wc_region ?_
  refine reg_quiet rfl (load_box tab_ok rfl rfl rfl rfl) ?_
  refine reg_quiet rfl (step_C tab_ok (fun K hk => hk)) ?_
  refine reg_quiet rfl (call_r (h.with ⟨false, []⟩) rfl rfl (arg_e (arg_e (arg_e (arg_nilslice arg_nil)))) (.inl rfl) (fun _ => rfl)) ?_
  refine reg_store (store_row tab_ok rfl rfl rfl ⟨_, ⟨rfl, rfl, rfl⟩, rfl⟩ rfl) ?_
  refine reg_quiet rfl (step_C tab_ok (fun K hk => hk)) ?_
  refine reg_nil ?_
  refine seq_n ?_
  refine wc_ret ?_
  exact ⟨trivial, _, rfl, [], .of rfl rfl rfl rfl rfl ⟨⟨_, rfl, AVLe.of_eq rfl⟩, rfl, trivial⟩ trivial⟩
theorem changes_is (d : Dk) : FnIs Try.prog 30 [.d (encDk d)] [] (.int .i64 d.ch) [] := by
  refine fnIs_of tab_ok Try.func30 rfl rfl rfl ?_
  refine wc_seq ?_
  refine wc_region ?_
  refine reg_new (step_C tab_ok (fun K hk => hk)) rfl ?_
  refine reg_quiet rfl (step_C tab_ok (fun K hk => hk)) ?_
  refine reg_nil ?_
  refine seq_n ?_
  refine wc_seq ?_
  refine wc_region ?_
  refine reg_quiet rfl (step_C tab_ok (fun K hk => hk)) ?_
  refine reg_quiet rfl (load_box tab_ok rfl rfl ⟨_, rfl, rfl⟩ rfl) ?_
  refine reg_quiet rfl (step_C tab_ok (fun K hk => hk)) ?_
  refine reg_nil ?_
  refine seq_n ?_
  refine wc_ret ?_
  exact ⟨trivial, [], .of rfl rfl rfl rfl rfl ⟨⟨_, rfl, AVLe.of_eq rfl⟩, rfl, trivial⟩ trivial⟩
theorem size_is (d : Dk) : FnIs Try.prog 21 [.d (encDk d)] [] (.int .i64 d.n) [] := by
  refine fnIs_of tab_ok Try.func21 rfl rfl rfl ?_
  refine wc_seq ?_
  refine wc_region ?_
  refine reg_new (step_C tab_ok (fun K hk => hk)) rfl ?_
  refine reg_quiet rfl (step_C tab_ok (fun K hk => hk)) ?_
  refine reg_nil ?_
  refine seq_n ?_
  refine wc_seq ?_
  refine wc_region ?_
  refine reg_quiet rfl (step_C tab_ok (fun K hk => hk)) ?_
  refine reg_quiet rfl (load_box tab_ok rfl rfl ⟨_, rfl, rfl⟩ rfl) ?_
  refine reg_quiet rfl (step_C tab_ok (fun K hk => hk)) ?_
  refine reg_nil ?_
  refine seq_n ?_
  refine wc_ret ?_
  exact ⟨trivial, [], .of rfl rfl rfl rfl rfl ⟨⟨_, rfl, AVLe.of_eq rfl⟩, rfl, trivial⟩ trivial⟩
end Go.Proofs.Ytfmemklkkmiicaa
