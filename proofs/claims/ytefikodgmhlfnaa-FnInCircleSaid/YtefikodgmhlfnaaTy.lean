/- The types of the seat, as the reckoner has them. Made by a program of mine. -/
import Derived.Test.YtefikodgmhlfnaaProg
import Derived.Test.YtefikodgmhlfnaaYf
import Derived.KernelRfl
import Derived.WalkKit
namespace Go.Proofs.Ytefikodgmhlfnaa
open Go.Sym
def tabL : List (Nat × TI) := [(1, { d := .oth, agg := false, sz := 1, bytes := 8, zero := [.nilFunc] }),
  (2, { d := .int .i64, agg := false, sz := 1, bytes := 8, zero := [.int .i64 0] }),
  (3, { d := .int .i64, agg := false, sz := 1, bytes := 8, zero := [.int .i64 0] }),
  (4, { d := .oth, agg := false, sz := 1, bytes := 1, zero := [.bool false] }),
  (5, { d := .int .u8, agg := false, sz := 1, bytes := 1, zero := [.int .u8 0] }),
  (6, { d := .int .u8, agg := false, sz := 1, bytes := 1, zero := [.int .u8 0] }),
  (7, { d := .st [(2, 0), (3, 1), (4, 2), (6, 3)], agg := true, sz := 4, bytes := 24, zero := [.int .i64 0, .int .i64 0, .bool false, .int .u8 0] }),
  (8, { d := .st [(2, 0), (3, 1), (4, 2), (6, 3)], agg := true, sz := 4, bytes := 24, zero := [.int .i64 0, .int .i64 0, .bool false, .int .u8 0] }),
  (12, { d := .int .u64, agg := false, sz := 1, bytes := 8, zero := [.int .u64 0] }),
  (15, { d := .oth, agg := false, sz := 1, bytes := 8, zero := [.pointer none] }),
  (16, { d := .oth, agg := false, sz := 1, bytes := 8, zero := [.pointer none] }),
  (17, { d := .oth, agg := false, sz := 1, bytes := 8, zero := [.pointer none] }),
  (18, { d := .st [(17, 0)], agg := true, sz := 1, bytes := 8, zero := [.pointer none] }),
  (19, { d := .st [(17, 0)], agg := true, sz := 1, bytes := 8, zero := [.pointer none] }),
  (21, { d := .int .i32, agg := false, sz := 1, bytes := 4, zero := [.int .i32 0] }),
  (22, { d := .sl 5, agg := false, sz := 1, bytes := 24, zero := [.slice none 0 0] }),
  (23, { d := .st [(3, 0), (3, 1)], agg := true, sz := 2, bytes := 16, zero := [.int .i64 0, .int .i64 0] }),
  (24, { d := .st [(3, 0), (3, 1)], agg := true, sz := 2, bytes := 16, zero := [.int .i64 0, .int .i64 0] }),
  (26, { d := .oth, agg := false, sz := 1, bytes := 8, zero := [.nilFunc] }),
  (27, { d := .oth, agg := false, sz := 1, bytes := 8, zero := [.nilFunc] }),
  (28, { d := .oth, agg := false, sz := 1, bytes := 8, zero := [.nilFunc] }),
  (29, { d := .oth, agg := false, sz := 1, bytes := 8, zero := [.pointer none] }),
  (30, { d := .oth, agg := false, sz := 1, bytes := 8, zero := [.nilFunc] }),
  (31, { d := .oth, agg := false, sz := 1, bytes := 8, zero := [.nilFunc] }),
  (32, { d := .oth, agg := false, sz := 1, bytes := 8, zero := [.nilFunc] }),
  (33, { d := .oth, agg := false, sz := 1, bytes := 8, zero := [.nilFunc] }),
  (34, { d := .oth, agg := false, sz := 1, bytes := 8, zero := [.nilFunc] }),
  (35, { d := .oth, agg := false, sz := 1, bytes := 8, zero := [.nilFunc] }),
  (36, { d := .st [(22, 0), (3, 1)], agg := true, sz := 2, bytes := 32, zero := [.slice none 0 0, .int .i64 0] }),
  (37, { d := .st [(22, 0), (3, 1)], agg := true, sz := 2, bytes := 32, zero := [.slice none 0 0, .int .i64 0] }),
  (38, { d := .oth, agg := false, sz := 1, bytes := 8, zero := [.nilFunc] }),
  (39, { d := .sl 3, agg := false, sz := 1, bytes := 24, zero := [.slice none 0 0] }),
  (40, { d := .sl 24, agg := false, sz := 1, bytes := 24, zero := [.slice none 0 0] }),
  (41, { d := .oth, agg := false, sz := 1, bytes := 8, zero := [.nilFunc] }),
  (42, { d := .oth, agg := false, sz := 1, bytes := 8, zero := [.nilFunc] }),
  (43, { d := .oth, agg := false, sz := 1, bytes := 8, zero := [.nilFunc] }),
  (44, { d := .oth, agg := false, sz := 1, bytes := 8, zero := [.nilFunc] }),
  (45, { d := .oth, agg := false, sz := 1, bytes := 8, zero := [.nilFunc] }),
  (46, { d := .oth, agg := false, sz := 1, bytes := 8, zero := [.nilFunc] }),
  (47, { d := .oth, agg := false, sz := 1, bytes := 8, zero := [.nilFunc] }),
  (48, { d := .oth, agg := false, sz := 1, bytes := 8, zero := [.nilFunc] }),
  (49, { d := .oth, agg := false, sz := 1, bytes := 8, zero := [.nilFunc] }),
  (55, { d := .oth, agg := false, sz := 1, bytes := 8, zero := [.nilFunc] }),
  (56, { d := .int .u32, agg := false, sz := 1, bytes := 4, zero := [.int .u32 0] }),
  (57, { d := .int .u8, agg := false, sz := 1, bytes := 1, zero := [.int .u8 0] }),
  (58, { d := .int .u8, agg := false, sz := 1, bytes := 1, zero := [.int .u8 0] }),
  (59, { d := .oth, agg := false, sz := 1, bytes := 8, zero := [.nilFunc] }),
  (60, { d := .oth, agg := false, sz := 1, bytes := 8, zero := [.pointer none] }),
  (61, { d := .int .i32, agg := false, sz := 1, bytes := 4, zero := [.int .i32 0] }),
  (62, { d := .int .i32, agg := false, sz := 1, bytes := 4, zero := [.int .i32 0] }),
  (63, { d := .st [(12, 0), (12, 1), (56, 2), (57, 3), (5, 4), (5, 5), (58, 6), (59, 7), (60, 8), (61, 9), (62, 10)], agg := true, sz := 11, bytes := 48, zero := [.int .u64 0, .int .u64 0, .int .u32 0, .int .u8 0, .int .u8 0, .int .u8 0, .int .u8 0, .nilFunc, .pointer none, .int .i32 0, .int .i32 0] }),
  (64, { d := .st [(12, 0), (12, 1), (56, 2), (57, 3), (5, 4), (5, 5), (58, 6), (59, 7), (60, 8), (61, 9), (62, 10)], agg := true, sz := 11, bytes := 48, zero := [.int .u64 0, .int .u64 0, .int .u32 0, .int .u8 0, .int .u8 0, .int .u8 0, .int .u8 0, .nilFunc, .pointer none, .int .i32 0, .int .i32 0] }),
  (65, { d := .oth, agg := false, sz := 1, bytes := 8, zero := [.pointer none] })]
def tab : Tab := tlook tabL
theorem tab1 : TI.ok Try.prog 1 { d := .oth, agg := false, sz := 1, bytes := 8, zero := [.nilFunc] } :=
  ⟨⟨_, _, (by kernel_rfl : Try.prog.info? 1 = some Try.t1), rfl, rfl, rfl, rfl, rfl⟩, ⟨_, Try.underlying1, trivial⟩, rfl, rfl, rfl, by decide⟩
theorem tab2 : TI.ok Try.prog 2 { d := .int .i64, agg := false, sz := 1, bytes := 8, zero := [.int .i64 0] } :=
  ⟨⟨_, _, (by kernel_rfl : Try.prog.info? 2 = some Try.t2), rfl, rfl, rfl, rfl, rfl⟩, ⟨_, Try.underlying2, rfl⟩, rfl, rfl, rfl, by decide⟩
theorem tab3 : TI.ok Try.prog 3 { d := .int .i64, agg := false, sz := 1, bytes := 8, zero := [.int .i64 0] } :=
  ⟨⟨_, _, (by kernel_rfl : Try.prog.info? 3 = some Try.t3), rfl, rfl, rfl, rfl, rfl⟩, ⟨_, Try.underlying3, rfl⟩, rfl, rfl, rfl, by decide⟩
theorem tab4 : TI.ok Try.prog 4 { d := .oth, agg := false, sz := 1, bytes := 1, zero := [.bool false] } :=
  ⟨⟨_, _, (by kernel_rfl : Try.prog.info? 4 = some Try.t4), rfl, rfl, rfl, rfl, rfl⟩, ⟨_, Try.underlying4, trivial⟩, rfl, rfl, rfl, by decide⟩
theorem tab5 : TI.ok Try.prog 5 { d := .int .u8, agg := false, sz := 1, bytes := 1, zero := [.int .u8 0] } :=
  ⟨⟨_, _, (by kernel_rfl : Try.prog.info? 5 = some Try.t5), rfl, rfl, rfl, rfl, rfl⟩, ⟨_, Try.underlying5, rfl⟩, rfl, rfl, rfl, by decide⟩
theorem tab6 : TI.ok Try.prog 6 { d := .int .u8, agg := false, sz := 1, bytes := 1, zero := [.int .u8 0] } :=
  ⟨⟨_, _, (by kernel_rfl : Try.prog.info? 6 = some Try.t6), rfl, rfl, rfl, rfl, rfl⟩, ⟨_, Try.underlying6, rfl⟩, rfl, rfl, rfl, by decide⟩
theorem tab7 : TI.ok Try.prog 7 { d := .st [(2, 0), (3, 1), (4, 2), (6, 3)], agg := true, sz := 4, bytes := 24, zero := [.int .i64 0, .int .i64 0, .bool false, .int .u8 0] } :=
  ⟨⟨_, _, (by kernel_rfl : Try.prog.info? 7 = some Try.t7), rfl, rfl, rfl, rfl, rfl⟩, ⟨_, Try.underlying7, ⟨_, rfl, rfl⟩⟩, rfl, rfl, rfl, by decide⟩
theorem tab8 : TI.ok Try.prog 8 { d := .st [(2, 0), (3, 1), (4, 2), (6, 3)], agg := true, sz := 4, bytes := 24, zero := [.int .i64 0, .int .i64 0, .bool false, .int .u8 0] } :=
  ⟨⟨_, _, (by kernel_rfl : Try.prog.info? 8 = some Try.t8), rfl, rfl, rfl, rfl, rfl⟩, ⟨_, Try.underlying8, ⟨_, rfl, rfl⟩⟩, rfl, rfl, rfl, by decide⟩
theorem tab12 : TI.ok Try.prog 12 { d := .int .u64, agg := false, sz := 1, bytes := 8, zero := [.int .u64 0] } :=
  ⟨⟨_, _, (by kernel_rfl : Try.prog.info? 12 = some Try.t12), rfl, rfl, rfl, rfl, rfl⟩, ⟨_, Try.underlying12, rfl⟩, rfl, rfl, rfl, by decide⟩
theorem tab15 : TI.ok Try.prog 15 { d := .oth, agg := false, sz := 1, bytes := 8, zero := [.pointer none] } :=
  ⟨⟨_, _, (by kernel_rfl : Try.prog.info? 15 = some Try.t15), rfl, rfl, rfl, rfl, rfl⟩, ⟨_, Try.underlying15, trivial⟩, rfl, rfl, rfl, by decide⟩
theorem tab16 : TI.ok Try.prog 16 { d := .oth, agg := false, sz := 1, bytes := 8, zero := [.pointer none] } :=
  ⟨⟨_, _, (by kernel_rfl : Try.prog.info? 16 = some Try.t16), rfl, rfl, rfl, rfl, rfl⟩, ⟨_, Try.underlying16, trivial⟩, rfl, rfl, rfl, by decide⟩
theorem tab17 : TI.ok Try.prog 17 { d := .oth, agg := false, sz := 1, bytes := 8, zero := [.pointer none] } :=
  ⟨⟨_, _, (by kernel_rfl : Try.prog.info? 17 = some Try.t17), rfl, rfl, rfl, rfl, rfl⟩, ⟨_, Try.underlying17, trivial⟩, rfl, rfl, rfl, by decide⟩
theorem tab18 : TI.ok Try.prog 18 { d := .st [(17, 0)], agg := true, sz := 1, bytes := 8, zero := [.pointer none] } :=
  ⟨⟨_, _, (by kernel_rfl : Try.prog.info? 18 = some Try.t18), rfl, rfl, rfl, rfl, rfl⟩, ⟨_, Try.underlying18, ⟨_, rfl, rfl⟩⟩, rfl, rfl, rfl, by decide⟩
theorem tab19 : TI.ok Try.prog 19 { d := .st [(17, 0)], agg := true, sz := 1, bytes := 8, zero := [.pointer none] } :=
  ⟨⟨_, _, (by kernel_rfl : Try.prog.info? 19 = some Try.t19), rfl, rfl, rfl, rfl, rfl⟩, ⟨_, Try.underlying19, ⟨_, rfl, rfl⟩⟩, rfl, rfl, rfl, by decide⟩
theorem tab21 : TI.ok Try.prog 21 { d := .int .i32, agg := false, sz := 1, bytes := 4, zero := [.int .i32 0] } :=
  ⟨⟨_, _, (by kernel_rfl : Try.prog.info? 21 = some Try.t21), rfl, rfl, rfl, rfl, rfl⟩, ⟨_, Try.underlying21, rfl⟩, rfl, rfl, rfl, by decide⟩
theorem tab22 : TI.ok Try.prog 22 { d := .sl 5, agg := false, sz := 1, bytes := 24, zero := [.slice none 0 0] } :=
  ⟨⟨_, _, (by kernel_rfl : Try.prog.info? 22 = some Try.t22), rfl, rfl, rfl, rfl, rfl⟩, ⟨_, Try.underlying22, rfl⟩, rfl, rfl, rfl, by decide⟩
theorem tab23 : TI.ok Try.prog 23 { d := .st [(3, 0), (3, 1)], agg := true, sz := 2, bytes := 16, zero := [.int .i64 0, .int .i64 0] } :=
  ⟨⟨_, _, (by kernel_rfl : Try.prog.info? 23 = some Try.t23), rfl, rfl, rfl, rfl, rfl⟩, ⟨_, Try.underlying23, ⟨_, rfl, rfl⟩⟩, rfl, rfl, rfl, by decide⟩
theorem tab24 : TI.ok Try.prog 24 { d := .st [(3, 0), (3, 1)], agg := true, sz := 2, bytes := 16, zero := [.int .i64 0, .int .i64 0] } :=
  ⟨⟨_, _, (by kernel_rfl : Try.prog.info? 24 = some Try.t24), rfl, rfl, rfl, rfl, rfl⟩, ⟨_, Try.underlying24, ⟨_, rfl, rfl⟩⟩, rfl, rfl, rfl, by decide⟩
theorem tab26 : TI.ok Try.prog 26 { d := .oth, agg := false, sz := 1, bytes := 8, zero := [.nilFunc] } :=
  ⟨⟨_, _, (by kernel_rfl : Try.prog.info? 26 = some Try.t26), rfl, rfl, rfl, rfl, rfl⟩, ⟨_, Try.underlying26, trivial⟩, rfl, rfl, rfl, by decide⟩
theorem tab27 : TI.ok Try.prog 27 { d := .oth, agg := false, sz := 1, bytes := 8, zero := [.nilFunc] } :=
  ⟨⟨_, _, (by kernel_rfl : Try.prog.info? 27 = some Try.t27), rfl, rfl, rfl, rfl, rfl⟩, ⟨_, Try.underlying27, trivial⟩, rfl, rfl, rfl, by decide⟩
theorem tab28 : TI.ok Try.prog 28 { d := .oth, agg := false, sz := 1, bytes := 8, zero := [.nilFunc] } :=
  ⟨⟨_, _, (by kernel_rfl : Try.prog.info? 28 = some Try.t28), rfl, rfl, rfl, rfl, rfl⟩, ⟨_, Try.underlying28, trivial⟩, rfl, rfl, rfl, by decide⟩
theorem tab29 : TI.ok Try.prog 29 { d := .oth, agg := false, sz := 1, bytes := 8, zero := [.pointer none] } :=
  ⟨⟨_, _, (by kernel_rfl : Try.prog.info? 29 = some Try.t29), rfl, rfl, rfl, rfl, rfl⟩, ⟨_, Try.underlying29, trivial⟩, rfl, rfl, rfl, by decide⟩
theorem tab30 : TI.ok Try.prog 30 { d := .oth, agg := false, sz := 1, bytes := 8, zero := [.nilFunc] } :=
  ⟨⟨_, _, (by kernel_rfl : Try.prog.info? 30 = some Try.t30), rfl, rfl, rfl, rfl, rfl⟩, ⟨_, Try.underlying30, trivial⟩, rfl, rfl, rfl, by decide⟩
theorem tab31 : TI.ok Try.prog 31 { d := .oth, agg := false, sz := 1, bytes := 8, zero := [.nilFunc] } :=
  ⟨⟨_, _, (by kernel_rfl : Try.prog.info? 31 = some Try.t31), rfl, rfl, rfl, rfl, rfl⟩, ⟨_, Try.underlying31, trivial⟩, rfl, rfl, rfl, by decide⟩
theorem tab32 : TI.ok Try.prog 32 { d := .oth, agg := false, sz := 1, bytes := 8, zero := [.nilFunc] } :=
  ⟨⟨_, _, (by kernel_rfl : Try.prog.info? 32 = some Try.t32), rfl, rfl, rfl, rfl, rfl⟩, ⟨_, Try.underlying32, trivial⟩, rfl, rfl, rfl, by decide⟩
theorem tab33 : TI.ok Try.prog 33 { d := .oth, agg := false, sz := 1, bytes := 8, zero := [.nilFunc] } :=
  ⟨⟨_, _, (by kernel_rfl : Try.prog.info? 33 = some Try.t33), rfl, rfl, rfl, rfl, rfl⟩, ⟨_, Try.underlying33, trivial⟩, rfl, rfl, rfl, by decide⟩
theorem tab34 : TI.ok Try.prog 34 { d := .oth, agg := false, sz := 1, bytes := 8, zero := [.nilFunc] } :=
  ⟨⟨_, _, (by kernel_rfl : Try.prog.info? 34 = some Try.t34), rfl, rfl, rfl, rfl, rfl⟩, ⟨_, Try.underlying34, trivial⟩, rfl, rfl, rfl, by decide⟩
theorem tab35 : TI.ok Try.prog 35 { d := .oth, agg := false, sz := 1, bytes := 8, zero := [.nilFunc] } :=
  ⟨⟨_, _, (by kernel_rfl : Try.prog.info? 35 = some Try.t35), rfl, rfl, rfl, rfl, rfl⟩, ⟨_, Try.underlying35, trivial⟩, rfl, rfl, rfl, by decide⟩
theorem tab36 : TI.ok Try.prog 36 { d := .st [(22, 0), (3, 1)], agg := true, sz := 2, bytes := 32, zero := [.slice none 0 0, .int .i64 0] } :=
  ⟨⟨_, _, (by kernel_rfl : Try.prog.info? 36 = some Try.t36), rfl, rfl, rfl, rfl, rfl⟩, ⟨_, Try.underlying36, ⟨_, rfl, rfl⟩⟩, rfl, rfl, rfl, by decide⟩
theorem tab37 : TI.ok Try.prog 37 { d := .st [(22, 0), (3, 1)], agg := true, sz := 2, bytes := 32, zero := [.slice none 0 0, .int .i64 0] } :=
  ⟨⟨_, _, (by kernel_rfl : Try.prog.info? 37 = some Try.t37), rfl, rfl, rfl, rfl, rfl⟩, ⟨_, Try.underlying37, ⟨_, rfl, rfl⟩⟩, rfl, rfl, rfl, by decide⟩
theorem tab38 : TI.ok Try.prog 38 { d := .oth, agg := false, sz := 1, bytes := 8, zero := [.nilFunc] } :=
  ⟨⟨_, _, (by kernel_rfl : Try.prog.info? 38 = some Try.t38), rfl, rfl, rfl, rfl, rfl⟩, ⟨_, Try.underlying38, trivial⟩, rfl, rfl, rfl, by decide⟩
theorem tab39 : TI.ok Try.prog 39 { d := .sl 3, agg := false, sz := 1, bytes := 24, zero := [.slice none 0 0] } :=
  ⟨⟨_, _, (by kernel_rfl : Try.prog.info? 39 = some Try.t39), rfl, rfl, rfl, rfl, rfl⟩, ⟨_, Try.underlying39, rfl⟩, rfl, rfl, rfl, by decide⟩
theorem tab40 : TI.ok Try.prog 40 { d := .sl 24, agg := false, sz := 1, bytes := 24, zero := [.slice none 0 0] } :=
  ⟨⟨_, _, (by kernel_rfl : Try.prog.info? 40 = some Try.t40), rfl, rfl, rfl, rfl, rfl⟩, ⟨_, Try.underlying40, rfl⟩, rfl, rfl, rfl, by decide⟩
theorem tab41 : TI.ok Try.prog 41 { d := .oth, agg := false, sz := 1, bytes := 8, zero := [.nilFunc] } :=
  ⟨⟨_, _, (by kernel_rfl : Try.prog.info? 41 = some Try.t41), rfl, rfl, rfl, rfl, rfl⟩, ⟨_, Try.underlying41, trivial⟩, rfl, rfl, rfl, by decide⟩
theorem tab42 : TI.ok Try.prog 42 { d := .oth, agg := false, sz := 1, bytes := 8, zero := [.nilFunc] } :=
  ⟨⟨_, _, (by kernel_rfl : Try.prog.info? 42 = some Try.t42), rfl, rfl, rfl, rfl, rfl⟩, ⟨_, Try.underlying42, trivial⟩, rfl, rfl, rfl, by decide⟩
theorem tab43 : TI.ok Try.prog 43 { d := .oth, agg := false, sz := 1, bytes := 8, zero := [.nilFunc] } :=
  ⟨⟨_, _, (by kernel_rfl : Try.prog.info? 43 = some Try.t43), rfl, rfl, rfl, rfl, rfl⟩, ⟨_, Try.underlying43, trivial⟩, rfl, rfl, rfl, by decide⟩
theorem tab44 : TI.ok Try.prog 44 { d := .oth, agg := false, sz := 1, bytes := 8, zero := [.nilFunc] } :=
  ⟨⟨_, _, (by kernel_rfl : Try.prog.info? 44 = some Try.t44), rfl, rfl, rfl, rfl, rfl⟩, ⟨_, Try.underlying44, trivial⟩, rfl, rfl, rfl, by decide⟩
theorem tab45 : TI.ok Try.prog 45 { d := .oth, agg := false, sz := 1, bytes := 8, zero := [.nilFunc] } :=
  ⟨⟨_, _, (by kernel_rfl : Try.prog.info? 45 = some Try.t45), rfl, rfl, rfl, rfl, rfl⟩, ⟨_, Try.underlying45, trivial⟩, rfl, rfl, rfl, by decide⟩
theorem tab46 : TI.ok Try.prog 46 { d := .oth, agg := false, sz := 1, bytes := 8, zero := [.nilFunc] } :=
  ⟨⟨_, _, (by kernel_rfl : Try.prog.info? 46 = some Try.t46), rfl, rfl, rfl, rfl, rfl⟩, ⟨_, Try.underlying46, trivial⟩, rfl, rfl, rfl, by decide⟩
theorem tab47 : TI.ok Try.prog 47 { d := .oth, agg := false, sz := 1, bytes := 8, zero := [.nilFunc] } :=
  ⟨⟨_, _, (by kernel_rfl : Try.prog.info? 47 = some Try.t47), rfl, rfl, rfl, rfl, rfl⟩, ⟨_, Try.underlying47, trivial⟩, rfl, rfl, rfl, by decide⟩
theorem tab48 : TI.ok Try.prog 48 { d := .oth, agg := false, sz := 1, bytes := 8, zero := [.nilFunc] } :=
  ⟨⟨_, _, (by kernel_rfl : Try.prog.info? 48 = some Try.t48), rfl, rfl, rfl, rfl, rfl⟩, ⟨_, Try.underlying48, trivial⟩, rfl, rfl, rfl, by decide⟩
theorem tab49 : TI.ok Try.prog 49 { d := .oth, agg := false, sz := 1, bytes := 8, zero := [.nilFunc] } :=
  ⟨⟨_, _, (by kernel_rfl : Try.prog.info? 49 = some Try.t49), rfl, rfl, rfl, rfl, rfl⟩, ⟨_, Try.underlying49, trivial⟩, rfl, rfl, rfl, by decide⟩
theorem tab55 : TI.ok Try.prog 55 { d := .oth, agg := false, sz := 1, bytes := 8, zero := [.nilFunc] } :=
  ⟨⟨_, _, (by kernel_rfl : Try.prog.info? 55 = some Try.t55), rfl, rfl, rfl, rfl, rfl⟩, ⟨_, Try.underlying55, trivial⟩, rfl, rfl, rfl, by decide⟩
theorem tab56 : TI.ok Try.prog 56 { d := .int .u32, agg := false, sz := 1, bytes := 4, zero := [.int .u32 0] } :=
  ⟨⟨_, _, (by kernel_rfl : Try.prog.info? 56 = some Try.t56), rfl, rfl, rfl, rfl, rfl⟩, ⟨_, Try.underlying56, rfl⟩, rfl, rfl, rfl, by decide⟩
theorem tab57 : TI.ok Try.prog 57 { d := .int .u8, agg := false, sz := 1, bytes := 1, zero := [.int .u8 0] } :=
  ⟨⟨_, _, (by kernel_rfl : Try.prog.info? 57 = some Try.t57), rfl, rfl, rfl, rfl, rfl⟩, ⟨_, Try.underlying57, rfl⟩, rfl, rfl, rfl, by decide⟩
theorem tab58 : TI.ok Try.prog 58 { d := .int .u8, agg := false, sz := 1, bytes := 1, zero := [.int .u8 0] } :=
  ⟨⟨_, _, (by kernel_rfl : Try.prog.info? 58 = some Try.t58), rfl, rfl, rfl, rfl, rfl⟩, ⟨_, Try.underlying58, rfl⟩, rfl, rfl, rfl, by decide⟩
theorem tab59 : TI.ok Try.prog 59 { d := .oth, agg := false, sz := 1, bytes := 8, zero := [.nilFunc] } :=
  ⟨⟨_, _, (by kernel_rfl : Try.prog.info? 59 = some Try.t59), rfl, rfl, rfl, rfl, rfl⟩, ⟨_, Try.underlying59, trivial⟩, rfl, rfl, rfl, by decide⟩
theorem tab60 : TI.ok Try.prog 60 { d := .oth, agg := false, sz := 1, bytes := 8, zero := [.pointer none] } :=
  ⟨⟨_, _, (by kernel_rfl : Try.prog.info? 60 = some Try.t60), rfl, rfl, rfl, rfl, rfl⟩, ⟨_, Try.underlying60, trivial⟩, rfl, rfl, rfl, by decide⟩
theorem tab61 : TI.ok Try.prog 61 { d := .int .i32, agg := false, sz := 1, bytes := 4, zero := [.int .i32 0] } :=
  ⟨⟨_, _, (by kernel_rfl : Try.prog.info? 61 = some Try.t61), rfl, rfl, rfl, rfl, rfl⟩, ⟨_, Try.underlying61, rfl⟩, rfl, rfl, rfl, by decide⟩
theorem tab62 : TI.ok Try.prog 62 { d := .int .i32, agg := false, sz := 1, bytes := 4, zero := [.int .i32 0] } :=
  ⟨⟨_, _, (by kernel_rfl : Try.prog.info? 62 = some Try.t62), rfl, rfl, rfl, rfl, rfl⟩, ⟨_, Try.underlying62, rfl⟩, rfl, rfl, rfl, by decide⟩
theorem tab63 : TI.ok Try.prog 63 { d := .st [(12, 0), (12, 1), (56, 2), (57, 3), (5, 4), (5, 5), (58, 6), (59, 7), (60, 8), (61, 9), (62, 10)], agg := true, sz := 11, bytes := 48, zero := [.int .u64 0, .int .u64 0, .int .u32 0, .int .u8 0, .int .u8 0, .int .u8 0, .int .u8 0, .nilFunc, .pointer none, .int .i32 0, .int .i32 0] } :=
  ⟨⟨_, _, (by kernel_rfl : Try.prog.info? 63 = some Try.t63), rfl, rfl, rfl, rfl, rfl⟩, ⟨_, Try.underlying63, ⟨_, rfl, rfl⟩⟩, rfl, rfl, rfl, by decide⟩
theorem tab64 : TI.ok Try.prog 64 { d := .st [(12, 0), (12, 1), (56, 2), (57, 3), (5, 4), (5, 5), (58, 6), (59, 7), (60, 8), (61, 9), (62, 10)], agg := true, sz := 11, bytes := 48, zero := [.int .u64 0, .int .u64 0, .int .u32 0, .int .u8 0, .int .u8 0, .int .u8 0, .int .u8 0, .nilFunc, .pointer none, .int .i32 0, .int .i32 0] } :=
  ⟨⟨_, _, (by kernel_rfl : Try.prog.info? 64 = some Try.t64), rfl, rfl, rfl, rfl, rfl⟩, ⟨_, Try.underlying64, ⟨_, rfl, rfl⟩⟩, rfl, rfl, rfl, by decide⟩
theorem tab65 : TI.ok Try.prog 65 { d := .oth, agg := false, sz := 1, bytes := 8, zero := [.pointer none] } :=
  ⟨⟨_, _, (by kernel_rfl : Try.prog.info? 65 = some Try.t65), rfl, rfl, rfl, rfl, rfl⟩, ⟨_, Try.underlying65, trivial⟩, rfl, rfl, rfl, by decide⟩
theorem tab_ok : ∀ t i, tab t = some i → TI.ok Try.prog t i := tlook_ok _ tabL ⟨tab1, tab2, tab3, tab4, tab5, tab6, tab7, tab8, tab12, tab15, tab16, tab17, tab18, tab19, tab21, tab22, tab23, tab24, tab26, tab27, tab28, tab29, tab30, tab31, tab32, tab33, tab34, tab35, tab36, tab37, tab38, tab39, tab40, tab41, tab42, tab43, tab44, tab45, tab46, tab47, tab48, tab49, tab55, tab56, tab57, tab58, tab59, tab60, tab61, tab62, tab63, tab64, tab65, trivial⟩
def eqL : List (Nat × EqK) := []
def eqt : EqTab := tlook eqL
theorem eqt_ok : EqOK Try.prog eqt := by
  refine tlook_ok _ eqL trivial
theorem env : Env Try.prog tab eqt := ⟨tab_ok, eqt_ok, by kernel_rfl⟩
end Go.Proofs.Ytefikodgmhlfnaa
