/- The types of the seat, as the reckoner has them. Made by a program of mine. -/
import Derived.Test.YtcfkpdjbjfnnmaaProg
import Derived.Test.YtcfkpdjbjfnnmaaYf
import Derived.KernelRfl
import Derived.WalkKit
namespace Go.Proofs.Ytcfkpdjbjfnnmaa
open Go.Sym
def tabL : List (Nat × TI) := [(1, { d := .oth, agg := false, sz := 1, bytes := 8, zero := [.nilFunc] }),
  (2, { d := .int .i64, agg := false, sz := 1, bytes := 8, zero := [.int .i64 0] }),
  (3, { d := .int .i64, agg := false, sz := 1, bytes := 8, zero := [.int .i64 0] }),
  (4, { d := .oth, agg := false, sz := 1, bytes := 1, zero := [.bool false] }),
  (5, { d := .int .u8, agg := false, sz := 1, bytes := 1, zero := [.int .u8 0] }),
  (6, { d := .int .u8, agg := false, sz := 1, bytes := 1, zero := [.int .u8 0] }),
  (7, { d := .st [(2, 0), (3, 1), (4, 2), (6, 3)], agg := true, sz := 4, bytes := 24, zero := [.int .i64 0, .int .i64 0, .bool false, .int .u8 0] }),
  (8, { d := .st [(2, 0), (3, 1), (4, 2), (6, 3)], agg := true, sz := 4, bytes := 24, zero := [.int .i64 0, .int .i64 0, .bool false, .int .u8 0] }),
  (12, { d := .int .u64, agg := false, sz := 1, bytes := 8, zero := [.int .u64 0] }),
  (15, { d := .oth, agg := false, sz := 1, bytes := 8, zero := [.pointer none] }),
  (16, { d := .oth, agg := false, sz := 1, bytes := 8, zero := [.pointer none] }),
  (17, { d := .oth, agg := false, sz := 1, bytes := 8, zero := [.pointer none] }),
  (18, { d := .st [(17, 0)], agg := true, sz := 1, bytes := 8, zero := [.pointer none] }),
  (19, { d := .st [(17, 0)], agg := true, sz := 1, bytes := 8, zero := [.pointer none] }),
  (21, { d := .int .i32, agg := false, sz := 1, bytes := 4, zero := [.int .i32 0] }),
  (22, { d := .sl 69, agg := false, sz := 1, bytes := 24, zero := [.slice none 0 0] }),
  (23, { d := .sl 71, agg := false, sz := 1, bytes := 24, zero := [.slice none 0 0] }),
  (24, { d := .oth, agg := false, sz := 1, bytes := 8, zero := [.nilFunc] }),
  (25, { d := .oth, agg := false, sz := 1, bytes := 8, zero := [.nilFunc] }),
  (26, { d := .oth, agg := false, sz := 1, bytes := 8, zero := [.nilFunc] }),
  (27, { d := .sl 50, agg := false, sz := 1, bytes := 24, zero := [.slice none 0 0] }),
  (28, { d := .oth, agg := false, sz := 1, bytes := 8, zero := [.nilFunc] }),
  (29, { d := .sl 58, agg := false, sz := 1, bytes := 24, zero := [.slice none 0 0] }),
  (30, { d := .oth, agg := false, sz := 1, bytes := 8, zero := [.nilFunc] }),
  (31, { d := .oth, agg := false, sz := 1, bytes := 8, zero := [.nilFunc] }),
  (32, { d := .oth, agg := false, sz := 1, bytes := 8, zero := [.nilFunc] }),
  (33, { d := .oth, agg := false, sz := 1, bytes := 8, zero := [.nilFunc] }),
  (34, { d := .sl 3, agg := false, sz := 1, bytes := 24, zero := [.slice none 0 0] }),
  (35, { d := .oth, agg := false, sz := 1, bytes := 8, zero := [.nilFunc] }),
  (36, { d := .oth, agg := false, sz := 1, bytes := 8, zero := [.nilFunc] }),
  (37, { d := .oth, agg := false, sz := 1, bytes := 8, zero := [.nilFunc] }),
  (38, { d := .oth, agg := false, sz := 1, bytes := 8, zero := [.nilFunc] }),
  (39, { d := .oth, agg := false, sz := 1, bytes := 8, zero := [.nilFunc] }),
  (40, { d := .sl 5, agg := false, sz := 1, bytes := 24, zero := [.slice none 0 0] }),
  (42, { d := .oth, agg := false, sz := 1, bytes := 8, zero := [.nilFunc] }),
  (43, { d := .st [(3, 0), (3, 1)], agg := true, sz := 2, bytes := 16, zero := [.int .i64 0, .int .i64 0] }),
  (44, { d := .st [(3, 0), (3, 1)], agg := true, sz := 2, bytes := 16, zero := [.int .i64 0, .int .i64 0] }),
  (45, { d := .st [(44, 0), (44, 2)], agg := true, sz := 4, bytes := 32, zero := [.int .i64 0, .int .i64 0, .int .i64 0, .int .i64 0] }),
  (46, { d := .st [(44, 0), (44, 2)], agg := true, sz := 4, bytes := 32, zero := [.int .i64 0, .int .i64 0, .int .i64 0, .int .i64 0] }),
  (48, { d := .oth, agg := false, sz := 1, bytes := 8, zero := [.nilFunc] }),
  (49, { d := .st [(3, 0), (3, 1)], agg := true, sz := 2, bytes := 16, zero := [.int .i64 0, .int .i64 0] }),
  (50, { d := .st [(3, 0), (3, 1)], agg := true, sz := 2, bytes := 16, zero := [.int .i64 0, .int .i64 0] }),
  (51, { d := .oth, agg := false, sz := 1, bytes := 8, zero := [.nilFunc] }),
  (52, { d := .oth, agg := false, sz := 1, bytes := 8, zero := [.nilFunc] }),
  (53, { d := .oth, agg := false, sz := 1, bytes := 8, zero := [.nilFunc] }),
  (54, { d := .oth, agg := false, sz := 1, bytes := 8, zero := [.nilFunc] }),
  (55, { d := .oth, agg := false, sz := 1, bytes := 8, zero := [.nilFunc] }),
  (56, { d := .oth, agg := false, sz := 1, bytes := 8, zero := [.nilFunc] }),
  (57, { d := .st [(3, 0), (3, 1)], agg := true, sz := 2, bytes := 16, zero := [.int .i64 0, .int .i64 0] }),
  (58, { d := .st [(3, 0), (3, 1)], agg := true, sz := 2, bytes := 16, zero := [.int .i64 0, .int .i64 0] }),
  (59, { d := .oth, agg := false, sz := 1, bytes := 8, zero := [.nilFunc] }),
  (60, { d := .oth, agg := false, sz := 1, bytes := 8, zero := [.nilFunc] }),
  (61, { d := .oth, agg := false, sz := 1, bytes := 8, zero := [.nilFunc] }),
  (62, { d := .oth, agg := false, sz := 1, bytes := 8, zero := [.nilFunc] }),
  (63, { d := .oth, agg := false, sz := 1, bytes := 8, zero := [.nilFunc] }),
  (65, { d := .oth, agg := false, sz := 1, bytes := 8, zero := [.nilFunc] }),
  (66, { d := .oth, agg := false, sz := 1, bytes := 8, zero := [.nilFunc] }),
  (67, { d := .oth, agg := false, sz := 1, bytes := 8, zero := [.nilFunc] }),
  (68, { d := .oth, agg := false, sz := 1, bytes := 8, zero := [.nilFunc] }),
  (69, { d := .st [(3, 0), (3, 1)], agg := true, sz := 2, bytes := 16, zero := [.int .i64 0, .int .i64 0] }),
  (70, { d := .oth, agg := false, sz := 1, bytes := 8, zero := [.nilFunc] }),
  (71, { d := .st [(3, 0), (3, 1)], agg := true, sz := 2, bytes := 16, zero := [.int .i64 0, .int .i64 0] }),
  (72, { d := .oth, agg := false, sz := 1, bytes := 8, zero := [.nilFunc] }),
  (73, { d := .oth, agg := false, sz := 1, bytes := 8, zero := [.nilFunc] }),
  (74, { d := .oth, agg := false, sz := 1, bytes := 8, zero := [.nilFunc] }),
  (75, { d := .sl 3, agg := false, sz := 1, bytes := 24, zero := [.slice none 0 0] }),
  (76, { d := .oth, agg := false, sz := 1, bytes := 8, zero := [.nilFunc] }),
  (77, { d := .oth, agg := false, sz := 1, bytes := 8, zero := [.nilFunc] }),
  (78, { d := .oth, agg := false, sz := 1, bytes := 8, zero := [.nilFunc] }),
  (79, { d := .sl 34, agg := false, sz := 1, bytes := 24, zero := [.slice none 0 0] }),
  (80, { d := .oth, agg := false, sz := 1, bytes := 8, zero := [.nilFunc] }),
  (81, { d := .oth, agg := false, sz := 1, bytes := 8, zero := [.nilFunc] }),
  (82, { d := .oth, agg := false, sz := 1, bytes := 8, zero := [.nilFunc] }),
  (83, { d := .oth, agg := false, sz := 1, bytes := 8, zero := [.nilFunc] }),
  (84, { d := .oth, agg := false, sz := 1, bytes := 8, zero := [.nilFunc] }),
  (85, { d := .oth, agg := false, sz := 1, bytes := 8, zero := [.nilFunc] }),
  (86, { d := .oth, agg := false, sz := 1, bytes := 8, zero := [.nilFunc] }),
  (87, { d := .oth, agg := false, sz := 1, bytes := 8, zero := [.nilFunc] }),
  (88, { d := .oth, agg := false, sz := 1, bytes := 8, zero := [.nilFunc] }),
  (89, { d := .oth, agg := false, sz := 1, bytes := 8, zero := [.nilFunc] }),
  (90, { d := .oth, agg := false, sz := 1, bytes := 8, zero := [.nilFunc] }),
  (91, { d := .oth, agg := false, sz := 1, bytes := 8, zero := [.nilFunc] }),
  (92, { d := .oth, agg := false, sz := 1, bytes := 8, zero := [.nilFunc] }),
  (93, { d := .oth, agg := false, sz := 1, bytes := 8, zero := [.pointer none] }),
  (94, { d := .oth, agg := false, sz := 1, bytes := 8, zero := [.nilFunc] }),
  (95, { d := .oth, agg := false, sz := 1, bytes := 8, zero := [.nilFunc] }),
  (96, { d := .oth, agg := false, sz := 1, bytes := 8, zero := [.nilFunc] }),
  (97, { d := .oth, agg := false, sz := 1, bytes := 8, zero := [.nilFunc] }),
  (98, { d := .oth, agg := false, sz := 1, bytes := 8, zero := [.nilFunc] }),
  (99, { d := .oth, agg := false, sz := 1, bytes := 8, zero := [.nilFunc] }),
  (100, { d := .oth, agg := false, sz := 1, bytes := 8, zero := [.nilFunc] }),
  (101, { d := .oth, agg := false, sz := 1, bytes := 8, zero := [.nilFunc] }),
  (102, { d := .oth, agg := false, sz := 1, bytes := 8, zero := [.nilFunc] }),
  (103, { d := .oth, agg := false, sz := 1, bytes := 8, zero := [.nilFunc] }),
  (104, { d := .oth, agg := false, sz := 1, bytes := 8, zero := [.nilFunc] }),
  (105, { d := .oth, agg := false, sz := 1, bytes := 8, zero := [.nilFunc] }),
  (106, { d := .oth, agg := false, sz := 1, bytes := 8, zero := [.nilFunc] }),
  (107, { d := .oth, agg := false, sz := 1, bytes := 8, zero := [.nilFunc] }),
  (108, { d := .oth, agg := false, sz := 1, bytes := 8, zero := [.nilFunc] }),
  (109, { d := .oth, agg := false, sz := 1, bytes := 8, zero := [.nilFunc] }),
  (110, { d := .oth, agg := false, sz := 1, bytes := 8, zero := [.nilFunc] }),
  (111, { d := .oth, agg := false, sz := 1, bytes := 8, zero := [.nilFunc] }),
  (112, { d := .oth, agg := false, sz := 1, bytes := 8, zero := [.nilFunc] }),
  (113, { d := .oth, agg := false, sz := 1, bytes := 8, zero := [.nilFunc] }),
  (114, { d := .st [(40, 0), (3, 1)], agg := true, sz := 2, bytes := 32, zero := [.slice none 0 0, .int .i64 0] }),
  (115, { d := .st [(40, 0), (3, 1)], agg := true, sz := 2, bytes := 32, zero := [.slice none 0 0, .int .i64 0] }),
  (116, { d := .oth, agg := false, sz := 1, bytes := 8, zero := [.nilFunc] }),
  (117, { d := .oth, agg := false, sz := 1, bytes := 8, zero := [.nilFunc] }),
  (118, { d := .oth, agg := false, sz := 1, bytes := 8, zero := [.nilFunc] }),
  (119, { d := .oth, agg := false, sz := 1, bytes := 8, zero := [.nilFunc] }),
  (120, { d := .int .u64, agg := false, sz := 1, bytes := 8, zero := [.int .u64 0] }),
  (121, { d := .oth, agg := false, sz := 1, bytes := 8, zero := [.nilFunc] }),
  (122, { d := .oth, agg := false, sz := 1, bytes := 8, zero := [.nilFunc] }),
  (123, { d := .oth, agg := false, sz := 1, bytes := 8, zero := [.nilFunc] }),
  (124, { d := .oth, agg := false, sz := 1, bytes := 8, zero := [.nilFunc] }),
  (125, { d := .oth, agg := false, sz := 1, bytes := 8, zero := [.nilFunc] }),
  (126, { d := .oth, agg := false, sz := 1, bytes := 8, zero := [.nilFunc] }),
  (127, { d := .int .i64, agg := false, sz := 1, bytes := 8, zero := [.int .i64 0] }),
  (129, { d := .oth, agg := false, sz := 1, bytes := 8, zero := [.nilFunc] }),
  (130, { d := .oth, agg := false, sz := 1, bytes := 8, zero := [.nilFunc] }),
  (131, { d := .oth, agg := false, sz := 1, bytes := 8, zero := [.nilFunc] }),
  (133, { d := .oth, agg := false, sz := 1, bytes := 8, zero := [.nilFunc] }),
  (134, { d := .oth, agg := false, sz := 1, bytes := 8, zero := [.nilFunc] }),
  (135, { d := .int .u32, agg := false, sz := 1, bytes := 4, zero := [.int .u32 0] }),
  (136, { d := .oth, agg := false, sz := 1, bytes := 8, zero := [.nilFunc] }),
  (137, { d := .int .u64, agg := false, sz := 1, bytes := 8, zero := [.int .u64 0] }),
  (138, { d := .int .u64, agg := false, sz := 1, bytes := 8, zero := [.int .u64 0] }),
  (139, { d := .oth, agg := false, sz := 1, bytes := 8, zero := [.nilFunc] }),
  (140, { d := .oth, agg := false, sz := 1, bytes := 8, zero := [.nilFunc] }),
  (141, { d := .oth, agg := false, sz := 1, bytes := 8, zero := [.nilFunc] }),
  (142, { d := .oth, agg := false, sz := 1, bytes := 8, zero := [.pointer none] }),
  (143, { d := .oth, agg := false, sz := 1, bytes := 8, zero := [.nilFunc] }),
  (144, { d := .oth, agg := false, sz := 1, bytes := 8, zero := [.pointer none] }),
  (146, { d := .oth, agg := false, sz := 1, bytes := 8, zero := [.nilFunc] }),
  (147, { d := .oth, agg := false, sz := 1, bytes := 8, zero := [.nilFunc] }),
  (153, { d := .oth, agg := false, sz := 1, bytes := 8, zero := [.nilFunc] }),
  (154, { d := .int .u8, agg := false, sz := 1, bytes := 1, zero := [.int .u8 0] }),
  (155, { d := .int .u8, agg := false, sz := 1, bytes := 1, zero := [.int .u8 0] }),
  (156, { d := .oth, agg := false, sz := 1, bytes := 8, zero := [.nilFunc] }),
  (157, { d := .oth, agg := false, sz := 1, bytes := 8, zero := [.pointer none] }),
  (158, { d := .int .i32, agg := false, sz := 1, bytes := 4, zero := [.int .i32 0] }),
  (159, { d := .int .i32, agg := false, sz := 1, bytes := 4, zero := [.int .i32 0] }),
  (160, { d := .st [(12, 0), (12, 1), (135, 2), (154, 3), (5, 4), (5, 5), (155, 6), (156, 7), (157, 8), (158, 9), (159, 10)], agg := true, sz := 11, bytes := 48, zero := [.int .u64 0, .int .u64 0, .int .u32 0, .int .u8 0, .int .u8 0, .int .u8 0, .int .u8 0, .nilFunc, .pointer none, .int .i32 0, .int .i32 0] }),
  (161, { d := .st [(12, 0), (12, 1), (135, 2), (154, 3), (5, 4), (5, 5), (155, 6), (156, 7), (157, 8), (158, 9), (159, 10)], agg := true, sz := 11, bytes := 48, zero := [.int .u64 0, .int .u64 0, .int .u32 0, .int .u8 0, .int .u8 0, .int .u8 0, .int .u8 0, .nilFunc, .pointer none, .int .i32 0, .int .i32 0] }),
  (162, { d := .oth, agg := false, sz := 1, bytes := 8, zero := [.pointer none] })]
def tab : Tab := tlook tabL
theorem tab1 : TI.ok Try.prog 1 { d := .oth, agg := false, sz := 1, bytes := 8, zero := [.nilFunc] } :=
  ⟨⟨_, _, (by kernel_rfl : Try.prog.info? 1 = some Try.t1), rfl, rfl, rfl, rfl, rfl⟩, ⟨_, Try.underlying1, trivial⟩, rfl, rfl, rfl, by decide⟩
theorem tab2 : TI.ok Try.prog 2 { d := .int .i64, agg := false, sz := 1, bytes := 8, zero := [.int .i64 0] } :=
  ⟨⟨_, _, (by kernel_rfl : Try.prog.info? 2 = some Try.t2), rfl, rfl, rfl, rfl, rfl⟩, ⟨_, Try.underlying2, rfl⟩, rfl, rfl, rfl, by decide⟩
theorem tab3 : TI.ok Try.prog 3 { d := .int .i64, agg := false, sz := 1, bytes := 8, zero := [.int .i64 0] } :=
  ⟨⟨_, _, (by kernel_rfl : Try.prog.info? 3 = some Try.t3), rfl, rfl, rfl, rfl, rfl⟩, ⟨_, Try.underlying3, rfl⟩, rfl, rfl, rfl, by decide⟩
theorem tab4 : TI.ok Try.prog 4 { d := .oth, agg := false, sz := 1, bytes := 1, zero := [.bool false] } :=
  ⟨⟨_, _, (by kernel_rfl : Try.prog.info? 4 = some Try.t4), rfl, rfl, rfl, rfl, rfl⟩, ⟨_, Try.underlying4, trivial⟩, rfl, rfl, rfl, by decide⟩
theorem tab5 : TI.ok Try.prog 5 { d := .int .u8, agg := false, sz := 1, bytes := 1, zero := [.int .u8 0] } :=
  ⟨⟨_, _, (by kernel_rfl : Try.prog.info? 5 = some Try.t5), rfl, rfl, rfl, rfl, rfl⟩, ⟨_, Try.underlying5, rfl⟩, rfl, rfl, rfl, by decide⟩
theorem tab6 : TI.ok Try.prog 6 { d := .int .u8, agg := false, sz := 1, bytes := 1, zero := [.int .u8 0] } :=
  ⟨⟨_, _, (by kernel_rfl : Try.prog.info? 6 = some Try.t6), rfl, rfl, rfl, rfl, rfl⟩, ⟨_, Try.underlying6, rfl⟩, rfl, rfl, rfl, by decide⟩
theorem tab7 : TI.ok Try.prog 7 { d := .st [(2, 0), (3, 1), (4, 2), (6, 3)], agg := true, sz := 4, bytes := 24, zero := [.int .i64 0, .int .i64 0, .bool false, .int .u8 0] } :=
  ⟨⟨_, _, (by kernel_rfl : Try.prog.info? 7 = some Try.t7), rfl, rfl, rfl, rfl, rfl⟩, ⟨_, Try.underlying7, ⟨_, rfl, rfl⟩⟩, rfl, rfl, rfl, by decide⟩
theorem tab8 : TI.ok Try.prog 8 { d := .st [(2, 0), (3, 1), (4, 2), (6, 3)], agg := true, sz := 4, bytes := 24, zero := [.int .i64 0, .int .i64 0, .bool false, .int .u8 0] } :=
  ⟨⟨_, _, (by kernel_rfl : Try.prog.info? 8 = some Try.t8), rfl, rfl, rfl, rfl, rfl⟩, ⟨_, Try.underlying8, ⟨_, rfl, rfl⟩⟩, rfl, rfl, rfl, by decide⟩
theorem tab12 : TI.ok Try.prog 12 { d := .int .u64, agg := false, sz := 1, bytes := 8, zero := [.int .u64 0] } :=
  ⟨⟨_, _, (by kernel_rfl : Try.prog.info? 12 = some Try.t12), rfl, rfl, rfl, rfl, rfl⟩, ⟨_, Try.underlying12, rfl⟩, rfl, rfl, rfl, by decide⟩
theorem tab15 : TI.ok Try.prog 15 { d := .oth, agg := false, sz := 1, bytes := 8, zero := [.pointer none] } :=
  ⟨⟨_, _, (by kernel_rfl : Try.prog.info? 15 = some Try.t15), rfl, rfl, rfl, rfl, rfl⟩, ⟨_, Try.underlying15, trivial⟩, rfl, rfl, rfl, by decide⟩
theorem tab16 : TI.ok Try.prog 16 { d := .oth, agg := false, sz := 1, bytes := 8, zero := [.pointer none] } :=
  ⟨⟨_, _, (by kernel_rfl : Try.prog.info? 16 = some Try.t16), rfl, rfl, rfl, rfl, rfl⟩, ⟨_, Try.underlying16, trivial⟩, rfl, rfl, rfl, by decide⟩
theorem tab17 : TI.ok Try.prog 17 { d := .oth, agg := false, sz := 1, bytes := 8, zero := [.pointer none] } :=
  ⟨⟨_, _, (by kernel_rfl : Try.prog.info? 17 = some Try.t17), rfl, rfl, rfl, rfl, rfl⟩, ⟨_, Try.underlying17, trivial⟩, rfl, rfl, rfl, by decide⟩
theorem tab18 : TI.ok Try.prog 18 { d := .st [(17, 0)], agg := true, sz := 1, bytes := 8, zero := [.pointer none] } :=
  ⟨⟨_, _, (by kernel_rfl : Try.prog.info? 18 = some Try.t18), rfl, rfl, rfl, rfl, rfl⟩, ⟨_, Try.underlying18, ⟨_, rfl, rfl⟩⟩, rfl, rfl, rfl, by decide⟩
theorem tab19 : TI.ok Try.prog 19 { d := .st [(17, 0)], agg := true, sz := 1, bytes := 8, zero := [.pointer none] } :=
  ⟨⟨_, _, (by kernel_rfl : Try.prog.info? 19 = some Try.t19), rfl, rfl, rfl, rfl, rfl⟩, ⟨_, Try.underlying19, ⟨_, rfl, rfl⟩⟩, rfl, rfl, rfl, by decide⟩
theorem tab21 : TI.ok Try.prog 21 { d := .int .i32, agg := false, sz := 1, bytes := 4, zero := [.int .i32 0] } :=
  ⟨⟨_, _, (by kernel_rfl : Try.prog.info? 21 = some Try.t21), rfl, rfl, rfl, rfl, rfl⟩, ⟨_, Try.underlying21, rfl⟩, rfl, rfl, rfl, by decide⟩
theorem tab22 : TI.ok Try.prog 22 { d := .sl 69, agg := false, sz := 1, bytes := 24, zero := [.slice none 0 0] } :=
  ⟨⟨_, _, (by kernel_rfl : Try.prog.info? 22 = some Try.t22), rfl, rfl, rfl, rfl, rfl⟩, ⟨_, Try.underlying22, rfl⟩, rfl, rfl, rfl, by decide⟩
theorem tab23 : TI.ok Try.prog 23 { d := .sl 71, agg := false, sz := 1, bytes := 24, zero := [.slice none 0 0] } :=
  ⟨⟨_, _, (by kernel_rfl : Try.prog.info? 23 = some Try.t23), rfl, rfl, rfl, rfl, rfl⟩, ⟨_, Try.underlying23, rfl⟩, rfl, rfl, rfl, by decide⟩
theorem tab24 : TI.ok Try.prog 24 { d := .oth, agg := false, sz := 1, bytes := 8, zero := [.nilFunc] } :=
  ⟨⟨_, _, (by kernel_rfl : Try.prog.info? 24 = some Try.t24), rfl, rfl, rfl, rfl, rfl⟩, ⟨_, Try.underlying24, trivial⟩, rfl, rfl, rfl, by decide⟩
theorem tab25 : TI.ok Try.prog 25 { d := .oth, agg := false, sz := 1, bytes := 8, zero := [.nilFunc] } :=
  ⟨⟨_, _, (by kernel_rfl : Try.prog.info? 25 = some Try.t25), rfl, rfl, rfl, rfl, rfl⟩, ⟨_, Try.underlying25, trivial⟩, rfl, rfl, rfl, by decide⟩
theorem tab26 : TI.ok Try.prog 26 { d := .oth, agg := false, sz := 1, bytes := 8, zero := [.nilFunc] } :=
  ⟨⟨_, _, (by kernel_rfl : Try.prog.info? 26 = some Try.t26), rfl, rfl, rfl, rfl, rfl⟩, ⟨_, Try.underlying26, trivial⟩, rfl, rfl, rfl, by decide⟩
theorem tab27 : TI.ok Try.prog 27 { d := .sl 50, agg := false, sz := 1, bytes := 24, zero := [.slice none 0 0] } :=
  ⟨⟨_, _, (by kernel_rfl : Try.prog.info? 27 = some Try.t27), rfl, rfl, rfl, rfl, rfl⟩, ⟨_, Try.underlying27, rfl⟩, rfl, rfl, rfl, by decide⟩
theorem tab28 : TI.ok Try.prog 28 { d := .oth, agg := false, sz := 1, bytes := 8, zero := [.nilFunc] } :=
  ⟨⟨_, _, (by kernel_rfl : Try.prog.info? 28 = some Try.t28), rfl, rfl, rfl, rfl, rfl⟩, ⟨_, Try.underlying28, trivial⟩, rfl, rfl, rfl, by decide⟩
theorem tab29 : TI.ok Try.prog 29 { d := .sl 58, agg := false, sz := 1, bytes := 24, zero := [.slice none 0 0] } :=
  ⟨⟨_, _, (by kernel_rfl : Try.prog.info? 29 = some Try.t29), rfl, rfl, rfl, rfl, rfl⟩, ⟨_, Try.underlying29, rfl⟩, rfl, rfl, rfl, by decide⟩
theorem tab30 : TI.ok Try.prog 30 { d := .oth, agg := false, sz := 1, bytes := 8, zero := [.nilFunc] } :=
  ⟨⟨_, _, (by kernel_rfl : Try.prog.info? 30 = some Try.t30), rfl, rfl, rfl, rfl, rfl⟩, ⟨_, Try.underlying30, trivial⟩, rfl, rfl, rfl, by decide⟩
theorem tab31 : TI.ok Try.prog 31 { d := .oth, agg := false, sz := 1, bytes := 8, zero := [.nilFunc] } :=
  ⟨⟨_, _, (by kernel_rfl : Try.prog.info? 31 = some Try.t31), rfl, rfl, rfl, rfl, rfl⟩, ⟨_, Try.underlying31, trivial⟩, rfl, rfl, rfl, by decide⟩
theorem tab32 : TI.ok Try.prog 32 { d := .oth, agg := false, sz := 1, bytes := 8, zero := [.nilFunc] } :=
  ⟨⟨_, _, (by kernel_rfl : Try.prog.info? 32 = some Try.t32), rfl, rfl, rfl, rfl, rfl⟩, ⟨_, Try.underlying32, trivial⟩, rfl, rfl, rfl, by decide⟩
theorem tab33 : TI.ok Try.prog 33 { d := .oth, agg := false, sz := 1, bytes := 8, zero := [.nilFunc] } :=
  ⟨⟨_, _, (by kernel_rfl : Try.prog.info? 33 = some Try.t33), rfl, rfl, rfl, rfl, rfl⟩, ⟨_, Try.underlying33, trivial⟩, rfl, rfl, rfl, by decide⟩
theorem tab34 : TI.ok Try.prog 34 { d := .sl 3, agg := false, sz := 1, bytes := 24, zero := [.slice none 0 0] } :=
  ⟨⟨_, _, (by kernel_rfl : Try.prog.info? 34 = some Try.t34), rfl, rfl, rfl, rfl, rfl⟩, ⟨_, Try.underlying34, rfl⟩, rfl, rfl, rfl, by decide⟩
theorem tab35 : TI.ok Try.prog 35 { d := .oth, agg := false, sz := 1, bytes := 8, zero := [.nilFunc] } :=
  ⟨⟨_, _, (by kernel_rfl : Try.prog.info? 35 = some Try.t35), rfl, rfl, rfl, rfl, rfl⟩, ⟨_, Try.underlying35, trivial⟩, rfl, rfl, rfl, by decide⟩
theorem tab36 : TI.ok Try.prog 36 { d := .oth, agg := false, sz := 1, bytes := 8, zero := [.nilFunc] } :=
  ⟨⟨_, _, (by kernel_rfl : Try.prog.info? 36 = some Try.t36), rfl, rfl, rfl, rfl, rfl⟩, ⟨_, Try.underlying36, trivial⟩, rfl, rfl, rfl, by decide⟩
theorem tab37 : TI.ok Try.prog 37 { d := .oth, agg := false, sz := 1, bytes := 8, zero := [.nilFunc] } :=
  ⟨⟨_, _, (by kernel_rfl : Try.prog.info? 37 = some Try.t37), rfl, rfl, rfl, rfl, rfl⟩, ⟨_, Try.underlying37, trivial⟩, rfl, rfl, rfl, by decide⟩
theorem tab38 : TI.ok Try.prog 38 { d := .oth, agg := false, sz := 1, bytes := 8, zero := [.nilFunc] } :=
  ⟨⟨_, _, (by kernel_rfl : Try.prog.info? 38 = some Try.t38), rfl, rfl, rfl, rfl, rfl⟩, ⟨_, Try.underlying38, trivial⟩, rfl, rfl, rfl, by decide⟩
theorem tab39 : TI.ok Try.prog 39 { d := .oth, agg := false, sz := 1, bytes := 8, zero := [.nilFunc] } :=
  ⟨⟨_, _, (by kernel_rfl : Try.prog.info? 39 = some Try.t39), rfl, rfl, rfl, rfl, rfl⟩, ⟨_, Try.underlying39, trivial⟩, rfl, rfl, rfl, by decide⟩
theorem tab40 : TI.ok Try.prog 40 { d := .sl 5, agg := false, sz := 1, bytes := 24, zero := [.slice none 0 0] } :=
  ⟨⟨_, _, (by kernel_rfl : Try.prog.info? 40 = some Try.t40), rfl, rfl, rfl, rfl, rfl⟩, ⟨_, Try.underlying40, rfl⟩, rfl, rfl, rfl, by decide⟩
theorem tab42 : TI.ok Try.prog 42 { d := .oth, agg := false, sz := 1, bytes := 8, zero := [.nilFunc] } :=
  ⟨⟨_, _, (by kernel_rfl : Try.prog.info? 42 = some Try.t42), rfl, rfl, rfl, rfl, rfl⟩, ⟨_, Try.underlying42, trivial⟩, rfl, rfl, rfl, by decide⟩
theorem tab43 : TI.ok Try.prog 43 { d := .st [(3, 0), (3, 1)], agg := true, sz := 2, bytes := 16, zero := [.int .i64 0, .int .i64 0] } :=
  ⟨⟨_, _, (by kernel_rfl : Try.prog.info? 43 = some Try.t43), rfl, rfl, rfl, rfl, rfl⟩, ⟨_, Try.underlying43, ⟨_, rfl, rfl⟩⟩, rfl, rfl, rfl, by decide⟩
theorem tab44 : TI.ok Try.prog 44 { d := .st [(3, 0), (3, 1)], agg := true, sz := 2, bytes := 16, zero := [.int .i64 0, .int .i64 0] } :=
  ⟨⟨_, _, (by kernel_rfl : Try.prog.info? 44 = some Try.t44), rfl, rfl, rfl, rfl, rfl⟩, ⟨_, Try.underlying44, ⟨_, rfl, rfl⟩⟩, rfl, rfl, rfl, by decide⟩
theorem tab45 : TI.ok Try.prog 45 { d := .st [(44, 0), (44, 2)], agg := true, sz := 4, bytes := 32, zero := [.int .i64 0, .int .i64 0, .int .i64 0, .int .i64 0] } :=
  ⟨⟨_, _, (by kernel_rfl : Try.prog.info? 45 = some Try.t45), rfl, rfl, rfl, rfl, rfl⟩, ⟨_, Try.underlying45, ⟨_, rfl, rfl⟩⟩, rfl, rfl, rfl, by decide⟩
theorem tab46 : TI.ok Try.prog 46 { d := .st [(44, 0), (44, 2)], agg := true, sz := 4, bytes := 32, zero := [.int .i64 0, .int .i64 0, .int .i64 0, .int .i64 0] } :=
  ⟨⟨_, _, (by kernel_rfl : Try.prog.info? 46 = some Try.t46), rfl, rfl, rfl, rfl, rfl⟩, ⟨_, Try.underlying46, ⟨_, rfl, rfl⟩⟩, rfl, rfl, rfl, by decide⟩
theorem tab48 : TI.ok Try.prog 48 { d := .oth, agg := false, sz := 1, bytes := 8, zero := [.nilFunc] } :=
  ⟨⟨_, _, (by kernel_rfl : Try.prog.info? 48 = some Try.t48), rfl, rfl, rfl, rfl, rfl⟩, ⟨_, Try.underlying48, trivial⟩, rfl, rfl, rfl, by decide⟩
theorem tab49 : TI.ok Try.prog 49 { d := .st [(3, 0), (3, 1)], agg := true, sz := 2, bytes := 16, zero := [.int .i64 0, .int .i64 0] } :=
  ⟨⟨_, _, (by kernel_rfl : Try.prog.info? 49 = some Try.t49), rfl, rfl, rfl, rfl, rfl⟩, ⟨_, Try.underlying49, ⟨_, rfl, rfl⟩⟩, rfl, rfl, rfl, by decide⟩
theorem tab50 : TI.ok Try.prog 50 { d := .st [(3, 0), (3, 1)], agg := true, sz := 2, bytes := 16, zero := [.int .i64 0, .int .i64 0] } :=
  ⟨⟨_, _, (by kernel_rfl : Try.prog.info? 50 = some Try.t50), rfl, rfl, rfl, rfl, rfl⟩, ⟨_, Try.underlying50, ⟨_, rfl, rfl⟩⟩, rfl, rfl, rfl, by decide⟩
theorem tab51 : TI.ok Try.prog 51 { d := .oth, agg := false, sz := 1, bytes := 8, zero := [.nilFunc] } :=
  ⟨⟨_, _, (by kernel_rfl : Try.prog.info? 51 = some Try.t51), rfl, rfl, rfl, rfl, rfl⟩, ⟨_, Try.underlying51, trivial⟩, rfl, rfl, rfl, by decide⟩
theorem tab52 : TI.ok Try.prog 52 { d := .oth, agg := false, sz := 1, bytes := 8, zero := [.nilFunc] } :=
  ⟨⟨_, _, (by kernel_rfl : Try.prog.info? 52 = some Try.t52), rfl, rfl, rfl, rfl, rfl⟩, ⟨_, Try.underlying52, trivial⟩, rfl, rfl, rfl, by decide⟩
theorem tab53 : TI.ok Try.prog 53 { d := .oth, agg := false, sz := 1, bytes := 8, zero := [.nilFunc] } :=
  ⟨⟨_, _, (by kernel_rfl : Try.prog.info? 53 = some Try.t53), rfl, rfl, rfl, rfl, rfl⟩, ⟨_, Try.underlying53, trivial⟩, rfl, rfl, rfl, by decide⟩
theorem tab54 : TI.ok Try.prog 54 { d := .oth, agg := false, sz := 1, bytes := 8, zero := [.nilFunc] } :=
  ⟨⟨_, _, (by kernel_rfl : Try.prog.info? 54 = some Try.t54), rfl, rfl, rfl, rfl, rfl⟩, ⟨_, Try.underlying54, trivial⟩, rfl, rfl, rfl, by decide⟩
theorem tab55 : TI.ok Try.prog 55 { d := .oth, agg := false, sz := 1, bytes := 8, zero := [.nilFunc] } :=
  ⟨⟨_, _, (by kernel_rfl : Try.prog.info? 55 = some Try.t55), rfl, rfl, rfl, rfl, rfl⟩, ⟨_, Try.underlying55, trivial⟩, rfl, rfl, rfl, by decide⟩
theorem tab56 : TI.ok Try.prog 56 { d := .oth, agg := false, sz := 1, bytes := 8, zero := [.nilFunc] } :=
  ⟨⟨_, _, (by kernel_rfl : Try.prog.info? 56 = some Try.t56), rfl, rfl, rfl, rfl, rfl⟩, ⟨_, Try.underlying56, trivial⟩, rfl, rfl, rfl, by decide⟩
theorem tab57 : TI.ok Try.prog 57 { d := .st [(3, 0), (3, 1)], agg := true, sz := 2, bytes := 16, zero := [.int .i64 0, .int .i64 0] } :=
  ⟨⟨_, _, (by kernel_rfl : Try.prog.info? 57 = some Try.t57), rfl, rfl, rfl, rfl, rfl⟩, ⟨_, Try.underlying57, ⟨_, rfl, rfl⟩⟩, rfl, rfl, rfl, by decide⟩
theorem tab58 : TI.ok Try.prog 58 { d := .st [(3, 0), (3, 1)], agg := true, sz := 2, bytes := 16, zero := [.int .i64 0, .int .i64 0] } :=
  ⟨⟨_, _, (by kernel_rfl : Try.prog.info? 58 = some Try.t58), rfl, rfl, rfl, rfl, rfl⟩, ⟨_, Try.underlying58, ⟨_, rfl, rfl⟩⟩, rfl, rfl, rfl, by decide⟩
theorem tab59 : TI.ok Try.prog 59 { d := .oth, agg := false, sz := 1, bytes := 8, zero := [.nilFunc] } :=
  ⟨⟨_, _, (by kernel_rfl : Try.prog.info? 59 = some Try.t59), rfl, rfl, rfl, rfl, rfl⟩, ⟨_, Try.underlying59, trivial⟩, rfl, rfl, rfl, by decide⟩
theorem tab60 : TI.ok Try.prog 60 { d := .oth, agg := false, sz := 1, bytes := 8, zero := [.nilFunc] } :=
  ⟨⟨_, _, (by kernel_rfl : Try.prog.info? 60 = some Try.t60), rfl, rfl, rfl, rfl, rfl⟩, ⟨_, Try.underlying60, trivial⟩, rfl, rfl, rfl, by decide⟩
theorem tab61 : TI.ok Try.prog 61 { d := .oth, agg := false, sz := 1, bytes := 8, zero := [.nilFunc] } :=
  ⟨⟨_, _, (by kernel_rfl : Try.prog.info? 61 = some Try.t61), rfl, rfl, rfl, rfl, rfl⟩, ⟨_, Try.underlying61, trivial⟩, rfl, rfl, rfl, by decide⟩
theorem tab62 : TI.ok Try.prog 62 { d := .oth, agg := false, sz := 1, bytes := 8, zero := [.nilFunc] } :=
  ⟨⟨_, _, (by kernel_rfl : Try.prog.info? 62 = some Try.t62), rfl, rfl, rfl, rfl, rfl⟩, ⟨_, Try.underlying62, trivial⟩, rfl, rfl, rfl, by decide⟩
theorem tab63 : TI.ok Try.prog 63 { d := .oth, agg := false, sz := 1, bytes := 8, zero := [.nilFunc] } :=
  ⟨⟨_, _, (by kernel_rfl : Try.prog.info? 63 = some Try.t63), rfl, rfl, rfl, rfl, rfl⟩, ⟨_, Try.underlying63, trivial⟩, rfl, rfl, rfl, by decide⟩
theorem tab65 : TI.ok Try.prog 65 { d := .oth, agg := false, sz := 1, bytes := 8, zero := [.nilFunc] } :=
  ⟨⟨_, _, (by kernel_rfl : Try.prog.info? 65 = some Try.t65), rfl, rfl, rfl, rfl, rfl⟩, ⟨_, Try.underlying65, trivial⟩, rfl, rfl, rfl, by decide⟩
theorem tab66 : TI.ok Try.prog 66 { d := .oth, agg := false, sz := 1, bytes := 8, zero := [.nilFunc] } :=
  ⟨⟨_, _, (by kernel_rfl : Try.prog.info? 66 = some Try.t66), rfl, rfl, rfl, rfl, rfl⟩, ⟨_, Try.underlying66, trivial⟩, rfl, rfl, rfl, by decide⟩
theorem tab67 : TI.ok Try.prog 67 { d := .oth, agg := false, sz := 1, bytes := 8, zero := [.nilFunc] } :=
  ⟨⟨_, _, (by kernel_rfl : Try.prog.info? 67 = some Try.t67), rfl, rfl, rfl, rfl, rfl⟩, ⟨_, Try.underlying67, trivial⟩, rfl, rfl, rfl, by decide⟩
theorem tab68 : TI.ok Try.prog 68 { d := .oth, agg := false, sz := 1, bytes := 8, zero := [.nilFunc] } :=
  ⟨⟨_, _, (by kernel_rfl : Try.prog.info? 68 = some Try.t68), rfl, rfl, rfl, rfl, rfl⟩, ⟨_, Try.underlying68, trivial⟩, rfl, rfl, rfl, by decide⟩
theorem tab69 : TI.ok Try.prog 69 { d := .st [(3, 0), (3, 1)], agg := true, sz := 2, bytes := 16, zero := [.int .i64 0, .int .i64 0] } :=
  ⟨⟨_, _, (by kernel_rfl : Try.prog.info? 69 = some Try.t69), rfl, rfl, rfl, rfl, rfl⟩, ⟨_, Try.underlying69, ⟨_, rfl, rfl⟩⟩, rfl, rfl, rfl, by decide⟩
theorem tab70 : TI.ok Try.prog 70 { d := .oth, agg := false, sz := 1, bytes := 8, zero := [.nilFunc] } :=
  ⟨⟨_, _, (by kernel_rfl : Try.prog.info? 70 = some Try.t70), rfl, rfl, rfl, rfl, rfl⟩, ⟨_, Try.underlying70, trivial⟩, rfl, rfl, rfl, by decide⟩
theorem tab71 : TI.ok Try.prog 71 { d := .st [(3, 0), (3, 1)], agg := true, sz := 2, bytes := 16, zero := [.int .i64 0, .int .i64 0] } :=
  ⟨⟨_, _, (by kernel_rfl : Try.prog.info? 71 = some Try.t71), rfl, rfl, rfl, rfl, rfl⟩, ⟨_, Try.underlying71, ⟨_, rfl, rfl⟩⟩, rfl, rfl, rfl, by decide⟩
theorem tab72 : TI.ok Try.prog 72 { d := .oth, agg := false, sz := 1, bytes := 8, zero := [.nilFunc] } :=
  ⟨⟨_, _, (by kernel_rfl : Try.prog.info? 72 = some Try.t72), rfl, rfl, rfl, rfl, rfl⟩, ⟨_, Try.underlying72, trivial⟩, rfl, rfl, rfl, by decide⟩
theorem tab73 : TI.ok Try.prog 73 { d := .oth, agg := false, sz := 1, bytes := 8, zero := [.nilFunc] } :=
  ⟨⟨_, _, (by kernel_rfl : Try.prog.info? 73 = some Try.t73), rfl, rfl, rfl, rfl, rfl⟩, ⟨_, Try.underlying73, trivial⟩, rfl, rfl, rfl, by decide⟩
theorem tab74 : TI.ok Try.prog 74 { d := .oth, agg := false, sz := 1, bytes := 8, zero := [.nilFunc] } :=
  ⟨⟨_, _, (by kernel_rfl : Try.prog.info? 74 = some Try.t74), rfl, rfl, rfl, rfl, rfl⟩, ⟨_, Try.underlying74, trivial⟩, rfl, rfl, rfl, by decide⟩
theorem tab75 : TI.ok Try.prog 75 { d := .sl 3, agg := false, sz := 1, bytes := 24, zero := [.slice none 0 0] } :=
  ⟨⟨_, _, (by kernel_rfl : Try.prog.info? 75 = some Try.t75), rfl, rfl, rfl, rfl, rfl⟩, ⟨_, Try.underlying75, rfl⟩, rfl, rfl, rfl, by decide⟩
theorem tab76 : TI.ok Try.prog 76 { d := .oth, agg := false, sz := 1, bytes := 8, zero := [.nilFunc] } :=
  ⟨⟨_, _, (by kernel_rfl : Try.prog.info? 76 = some Try.t76), rfl, rfl, rfl, rfl, rfl⟩, ⟨_, Try.underlying76, trivial⟩, rfl, rfl, rfl, by decide⟩
theorem tab77 : TI.ok Try.prog 77 { d := .oth, agg := false, sz := 1, bytes := 8, zero := [.nilFunc] } :=
  ⟨⟨_, _, (by kernel_rfl : Try.prog.info? 77 = some Try.t77), rfl, rfl, rfl, rfl, rfl⟩, ⟨_, Try.underlying77, trivial⟩, rfl, rfl, rfl, by decide⟩
theorem tab78 : TI.ok Try.prog 78 { d := .oth, agg := false, sz := 1, bytes := 8, zero := [.nilFunc] } :=
  ⟨⟨_, _, (by kernel_rfl : Try.prog.info? 78 = some Try.t78), rfl, rfl, rfl, rfl, rfl⟩, ⟨_, Try.underlying78, trivial⟩, rfl, rfl, rfl, by decide⟩
theorem tab79 : TI.ok Try.prog 79 { d := .sl 34, agg := false, sz := 1, bytes := 24, zero := [.slice none 0 0] } :=
  ⟨⟨_, _, (by kernel_rfl : Try.prog.info? 79 = some Try.t79), rfl, rfl, rfl, rfl, rfl⟩, ⟨_, Try.underlying79, rfl⟩, rfl, rfl, rfl, by decide⟩
theorem tab80 : TI.ok Try.prog 80 { d := .oth, agg := false, sz := 1, bytes := 8, zero := [.nilFunc] } :=
  ⟨⟨_, _, (by kernel_rfl : Try.prog.info? 80 = some Try.t80), rfl, rfl, rfl, rfl, rfl⟩, ⟨_, Try.underlying80, trivial⟩, rfl, rfl, rfl, by decide⟩
theorem tab81 : TI.ok Try.prog 81 { d := .oth, agg := false, sz := 1, bytes := 8, zero := [.nilFunc] } :=
  ⟨⟨_, _, (by kernel_rfl : Try.prog.info? 81 = some Try.t81), rfl, rfl, rfl, rfl, rfl⟩, ⟨_, Try.underlying81, trivial⟩, rfl, rfl, rfl, by decide⟩
theorem tab82 : TI.ok Try.prog 82 { d := .oth, agg := false, sz := 1, bytes := 8, zero := [.nilFunc] } :=
  ⟨⟨_, _, (by kernel_rfl : Try.prog.info? 82 = some Try.t82), rfl, rfl, rfl, rfl, rfl⟩, ⟨_, Try.underlying82, trivial⟩, rfl, rfl, rfl, by decide⟩
theorem tab83 : TI.ok Try.prog 83 { d := .oth, agg := false, sz := 1, bytes := 8, zero := [.nilFunc] } :=
  ⟨⟨_, _, (by kernel_rfl : Try.prog.info? 83 = some Try.t83), rfl, rfl, rfl, rfl, rfl⟩, ⟨_, Try.underlying83, trivial⟩, rfl, rfl, rfl, by decide⟩
theorem tab84 : TI.ok Try.prog 84 { d := .oth, agg := false, sz := 1, bytes := 8, zero := [.nilFunc] } :=
  ⟨⟨_, _, (by kernel_rfl : Try.prog.info? 84 = some Try.t84), rfl, rfl, rfl, rfl, rfl⟩, ⟨_, Try.underlying84, trivial⟩, rfl, rfl, rfl, by decide⟩
theorem tab85 : TI.ok Try.prog 85 { d := .oth, agg := false, sz := 1, bytes := 8, zero := [.nilFunc] } :=
  ⟨⟨_, _, (by kernel_rfl : Try.prog.info? 85 = some Try.t85), rfl, rfl, rfl, rfl, rfl⟩, ⟨_, Try.underlying85, trivial⟩, rfl, rfl, rfl, by decide⟩
theorem tab86 : TI.ok Try.prog 86 { d := .oth, agg := false, sz := 1, bytes := 8, zero := [.nilFunc] } :=
  ⟨⟨_, _, (by kernel_rfl : Try.prog.info? 86 = some Try.t86), rfl, rfl, rfl, rfl, rfl⟩, ⟨_, Try.underlying86, trivial⟩, rfl, rfl, rfl, by decide⟩
theorem tab87 : TI.ok Try.prog 87 { d := .oth, agg := false, sz := 1, bytes := 8, zero := [.nilFunc] } :=
  ⟨⟨_, _, (by kernel_rfl : Try.prog.info? 87 = some Try.t87), rfl, rfl, rfl, rfl, rfl⟩, ⟨_, Try.underlying87, trivial⟩, rfl, rfl, rfl, by decide⟩
theorem tab88 : TI.ok Try.prog 88 { d := .oth, agg := false, sz := 1, bytes := 8, zero := [.nilFunc] } :=
  ⟨⟨_, _, (by kernel_rfl : Try.prog.info? 88 = some Try.t88), rfl, rfl, rfl, rfl, rfl⟩, ⟨_, Try.underlying88, trivial⟩, rfl, rfl, rfl, by decide⟩
theorem tab89 : TI.ok Try.prog 89 { d := .oth, agg := false, sz := 1, bytes := 8, zero := [.nilFunc] } :=
  ⟨⟨_, _, (by kernel_rfl : Try.prog.info? 89 = some Try.t89), rfl, rfl, rfl, rfl, rfl⟩, ⟨_, Try.underlying89, trivial⟩, rfl, rfl, rfl, by decide⟩
theorem tab90 : TI.ok Try.prog 90 { d := .oth, agg := false, sz := 1, bytes := 8, zero := [.nilFunc] } :=
  ⟨⟨_, _, (by kernel_rfl : Try.prog.info? 90 = some Try.t90), rfl, rfl, rfl, rfl, rfl⟩, ⟨_, Try.underlying90, trivial⟩, rfl, rfl, rfl, by decide⟩
theorem tab91 : TI.ok Try.prog 91 { d := .oth, agg := false, sz := 1, bytes := 8, zero := [.nilFunc] } :=
  ⟨⟨_, _, (by kernel_rfl : Try.prog.info? 91 = some Try.t91), rfl, rfl, rfl, rfl, rfl⟩, ⟨_, Try.underlying91, trivial⟩, rfl, rfl, rfl, by decide⟩
theorem tab92 : TI.ok Try.prog 92 { d := .oth, agg := false, sz := 1, bytes := 8, zero := [.nilFunc] } :=
  ⟨⟨_, _, (by kernel_rfl : Try.prog.info? 92 = some Try.t92), rfl, rfl, rfl, rfl, rfl⟩, ⟨_, Try.underlying92, trivial⟩, rfl, rfl, rfl, by decide⟩
theorem tab93 : TI.ok Try.prog 93 { d := .oth, agg := false, sz := 1, bytes := 8, zero := [.pointer none] } :=
  ⟨⟨_, _, (by kernel_rfl : Try.prog.info? 93 = some Try.t93), rfl, rfl, rfl, rfl, rfl⟩, ⟨_, Try.underlying93, trivial⟩, rfl, rfl, rfl, by decide⟩
theorem tab94 : TI.ok Try.prog 94 { d := .oth, agg := false, sz := 1, bytes := 8, zero := [.nilFunc] } :=
  ⟨⟨_, _, (by kernel_rfl : Try.prog.info? 94 = some Try.t94), rfl, rfl, rfl, rfl, rfl⟩, ⟨_, Try.underlying94, trivial⟩, rfl, rfl, rfl, by decide⟩
theorem tab95 : TI.ok Try.prog 95 { d := .oth, agg := false, sz := 1, bytes := 8, zero := [.nilFunc] } :=
  ⟨⟨_, _, (by kernel_rfl : Try.prog.info? 95 = some Try.t95), rfl, rfl, rfl, rfl, rfl⟩, ⟨_, Try.underlying95, trivial⟩, rfl, rfl, rfl, by decide⟩
theorem tab96 : TI.ok Try.prog 96 { d := .oth, agg := false, sz := 1, bytes := 8, zero := [.nilFunc] } :=
  ⟨⟨_, _, (by kernel_rfl : Try.prog.info? 96 = some Try.t96), rfl, rfl, rfl, rfl, rfl⟩, ⟨_, Try.underlying96, trivial⟩, rfl, rfl, rfl, by decide⟩
theorem tab97 : TI.ok Try.prog 97 { d := .oth, agg := false, sz := 1, bytes := 8, zero := [.nilFunc] } :=
  ⟨⟨_, _, (by kernel_rfl : Try.prog.info? 97 = some Try.t97), rfl, rfl, rfl, rfl, rfl⟩, ⟨_, Try.underlying97, trivial⟩, rfl, rfl, rfl, by decide⟩
theorem tab98 : TI.ok Try.prog 98 { d := .oth, agg := false, sz := 1, bytes := 8, zero := [.nilFunc] } :=
  ⟨⟨_, _, (by kernel_rfl : Try.prog.info? 98 = some Try.t98), rfl, rfl, rfl, rfl, rfl⟩, ⟨_, Try.underlying98, trivial⟩, rfl, rfl, rfl, by decide⟩
theorem tab99 : TI.ok Try.prog 99 { d := .oth, agg := false, sz := 1, bytes := 8, zero := [.nilFunc] } :=
  ⟨⟨_, _, (by kernel_rfl : Try.prog.info? 99 = some Try.t99), rfl, rfl, rfl, rfl, rfl⟩, ⟨_, Try.underlying99, trivial⟩, rfl, rfl, rfl, by decide⟩
theorem tab100 : TI.ok Try.prog 100 { d := .oth, agg := false, sz := 1, bytes := 8, zero := [.nilFunc] } :=
  ⟨⟨_, _, (by kernel_rfl : Try.prog.info? 100 = some Try.t100), rfl, rfl, rfl, rfl, rfl⟩, ⟨_, Try.underlying100, trivial⟩, rfl, rfl, rfl, by decide⟩
theorem tab101 : TI.ok Try.prog 101 { d := .oth, agg := false, sz := 1, bytes := 8, zero := [.nilFunc] } :=
  ⟨⟨_, _, (by kernel_rfl : Try.prog.info? 101 = some Try.t101), rfl, rfl, rfl, rfl, rfl⟩, ⟨_, Try.underlying101, trivial⟩, rfl, rfl, rfl, by decide⟩
theorem tab102 : TI.ok Try.prog 102 { d := .oth, agg := false, sz := 1, bytes := 8, zero := [.nilFunc] } :=
  ⟨⟨_, _, (by kernel_rfl : Try.prog.info? 102 = some Try.t102), rfl, rfl, rfl, rfl, rfl⟩, ⟨_, Try.underlying102, trivial⟩, rfl, rfl, rfl, by decide⟩
theorem tab103 : TI.ok Try.prog 103 { d := .oth, agg := false, sz := 1, bytes := 8, zero := [.nilFunc] } :=
  ⟨⟨_, _, (by kernel_rfl : Try.prog.info? 103 = some Try.t103), rfl, rfl, rfl, rfl, rfl⟩, ⟨_, Try.underlying103, trivial⟩, rfl, rfl, rfl, by decide⟩
theorem tab104 : TI.ok Try.prog 104 { d := .oth, agg := false, sz := 1, bytes := 8, zero := [.nilFunc] } :=
  ⟨⟨_, _, (by kernel_rfl : Try.prog.info? 104 = some Try.t104), rfl, rfl, rfl, rfl, rfl⟩, ⟨_, Try.underlying104, trivial⟩, rfl, rfl, rfl, by decide⟩
theorem tab105 : TI.ok Try.prog 105 { d := .oth, agg := false, sz := 1, bytes := 8, zero := [.nilFunc] } :=
  ⟨⟨_, _, (by kernel_rfl : Try.prog.info? 105 = some Try.t105), rfl, rfl, rfl, rfl, rfl⟩, ⟨_, Try.underlying105, trivial⟩, rfl, rfl, rfl, by decide⟩
theorem tab106 : TI.ok Try.prog 106 { d := .oth, agg := false, sz := 1, bytes := 8, zero := [.nilFunc] } :=
  ⟨⟨_, _, (by kernel_rfl : Try.prog.info? 106 = some Try.t106), rfl, rfl, rfl, rfl, rfl⟩, ⟨_, Try.underlying106, trivial⟩, rfl, rfl, rfl, by decide⟩
theorem tab107 : TI.ok Try.prog 107 { d := .oth, agg := false, sz := 1, bytes := 8, zero := [.nilFunc] } :=
  ⟨⟨_, _, (by kernel_rfl : Try.prog.info? 107 = some Try.t107), rfl, rfl, rfl, rfl, rfl⟩, ⟨_, Try.underlying107, trivial⟩, rfl, rfl, rfl, by decide⟩
theorem tab108 : TI.ok Try.prog 108 { d := .oth, agg := false, sz := 1, bytes := 8, zero := [.nilFunc] } :=
  ⟨⟨_, _, (by kernel_rfl : Try.prog.info? 108 = some Try.t108), rfl, rfl, rfl, rfl, rfl⟩, ⟨_, Try.underlying108, trivial⟩, rfl, rfl, rfl, by decide⟩
theorem tab109 : TI.ok Try.prog 109 { d := .oth, agg := false, sz := 1, bytes := 8, zero := [.nilFunc] } :=
  ⟨⟨_, _, (by kernel_rfl : Try.prog.info? 109 = some Try.t109), rfl, rfl, rfl, rfl, rfl⟩, ⟨_, Try.underlying109, trivial⟩, rfl, rfl, rfl, by decide⟩
theorem tab110 : TI.ok Try.prog 110 { d := .oth, agg := false, sz := 1, bytes := 8, zero := [.nilFunc] } :=
  ⟨⟨_, _, (by kernel_rfl : Try.prog.info? 110 = some Try.t110), rfl, rfl, rfl, rfl, rfl⟩, ⟨_, Try.underlying110, trivial⟩, rfl, rfl, rfl, by decide⟩
theorem tab111 : TI.ok Try.prog 111 { d := .oth, agg := false, sz := 1, bytes := 8, zero := [.nilFunc] } :=
  ⟨⟨_, _, (by kernel_rfl : Try.prog.info? 111 = some Try.t111), rfl, rfl, rfl, rfl, rfl⟩, ⟨_, Try.underlying111, trivial⟩, rfl, rfl, rfl, by decide⟩
theorem tab112 : TI.ok Try.prog 112 { d := .oth, agg := false, sz := 1, bytes := 8, zero := [.nilFunc] } :=
  ⟨⟨_, _, (by kernel_rfl : Try.prog.info? 112 = some Try.t112), rfl, rfl, rfl, rfl, rfl⟩, ⟨_, Try.underlying112, trivial⟩, rfl, rfl, rfl, by decide⟩
theorem tab113 : TI.ok Try.prog 113 { d := .oth, agg := false, sz := 1, bytes := 8, zero := [.nilFunc] } :=
  ⟨⟨_, _, (by kernel_rfl : Try.prog.info? 113 = some Try.t113), rfl, rfl, rfl, rfl, rfl⟩, ⟨_, Try.underlying113, trivial⟩, rfl, rfl, rfl, by decide⟩
theorem tab114 : TI.ok Try.prog 114 { d := .st [(40, 0), (3, 1)], agg := true, sz := 2, bytes := 32, zero := [.slice none 0 0, .int .i64 0] } :=
  ⟨⟨_, _, (by kernel_rfl : Try.prog.info? 114 = some Try.t114), rfl, rfl, rfl, rfl, rfl⟩, ⟨_, Try.underlying114, ⟨_, rfl, rfl⟩⟩, rfl, rfl, rfl, by decide⟩
theorem tab115 : TI.ok Try.prog 115 { d := .st [(40, 0), (3, 1)], agg := true, sz := 2, bytes := 32, zero := [.slice none 0 0, .int .i64 0] } :=
  ⟨⟨_, _, (by kernel_rfl : Try.prog.info? 115 = some Try.t115), rfl, rfl, rfl, rfl, rfl⟩, ⟨_, Try.underlying115, ⟨_, rfl, rfl⟩⟩, rfl, rfl, rfl, by decide⟩
theorem tab116 : TI.ok Try.prog 116 { d := .oth, agg := false, sz := 1, bytes := 8, zero := [.nilFunc] } :=
  ⟨⟨_, _, (by kernel_rfl : Try.prog.info? 116 = some Try.t116), rfl, rfl, rfl, rfl, rfl⟩, ⟨_, Try.underlying116, trivial⟩, rfl, rfl, rfl, by decide⟩
theorem tab117 : TI.ok Try.prog 117 { d := .oth, agg := false, sz := 1, bytes := 8, zero := [.nilFunc] } :=
  ⟨⟨_, _, (by kernel_rfl : Try.prog.info? 117 = some Try.t117), rfl, rfl, rfl, rfl, rfl⟩, ⟨_, Try.underlying117, trivial⟩, rfl, rfl, rfl, by decide⟩
theorem tab118 : TI.ok Try.prog 118 { d := .oth, agg := false, sz := 1, bytes := 8, zero := [.nilFunc] } :=
  ⟨⟨_, _, (by kernel_rfl : Try.prog.info? 118 = some Try.t118), rfl, rfl, rfl, rfl, rfl⟩, ⟨_, Try.underlying118, trivial⟩, rfl, rfl, rfl, by decide⟩
theorem tab119 : TI.ok Try.prog 119 { d := .oth, agg := false, sz := 1, bytes := 8, zero := [.nilFunc] } :=
  ⟨⟨_, _, (by kernel_rfl : Try.prog.info? 119 = some Try.t119), rfl, rfl, rfl, rfl, rfl⟩, ⟨_, Try.underlying119, trivial⟩, rfl, rfl, rfl, by decide⟩
theorem tab120 : TI.ok Try.prog 120 { d := .int .u64, agg := false, sz := 1, bytes := 8, zero := [.int .u64 0] } :=
  ⟨⟨_, _, (by kernel_rfl : Try.prog.info? 120 = some Try.t120), rfl, rfl, rfl, rfl, rfl⟩, ⟨_, Try.underlying120, rfl⟩, rfl, rfl, rfl, by decide⟩
theorem tab121 : TI.ok Try.prog 121 { d := .oth, agg := false, sz := 1, bytes := 8, zero := [.nilFunc] } :=
  ⟨⟨_, _, (by kernel_rfl : Try.prog.info? 121 = some Try.t121), rfl, rfl, rfl, rfl, rfl⟩, ⟨_, Try.underlying121, trivial⟩, rfl, rfl, rfl, by decide⟩
theorem tab122 : TI.ok Try.prog 122 { d := .oth, agg := false, sz := 1, bytes := 8, zero := [.nilFunc] } :=
  ⟨⟨_, _, (by kernel_rfl : Try.prog.info? 122 = some Try.t122), rfl, rfl, rfl, rfl, rfl⟩, ⟨_, Try.underlying122, trivial⟩, rfl, rfl, rfl, by decide⟩
theorem tab123 : TI.ok Try.prog 123 { d := .oth, agg := false, sz := 1, bytes := 8, zero := [.nilFunc] } :=
  ⟨⟨_, _, (by kernel_rfl : Try.prog.info? 123 = some Try.t123), rfl, rfl, rfl, rfl, rfl⟩, ⟨_, Try.underlying123, trivial⟩, rfl, rfl, rfl, by decide⟩
theorem tab124 : TI.ok Try.prog 124 { d := .oth, agg := false, sz := 1, bytes := 8, zero := [.nilFunc] } :=
  ⟨⟨_, _, (by kernel_rfl : Try.prog.info? 124 = some Try.t124), rfl, rfl, rfl, rfl, rfl⟩, ⟨_, Try.underlying124, trivial⟩, rfl, rfl, rfl, by decide⟩
theorem tab125 : TI.ok Try.prog 125 { d := .oth, agg := false, sz := 1, bytes := 8, zero := [.nilFunc] } :=
  ⟨⟨_, _, (by kernel_rfl : Try.prog.info? 125 = some Try.t125), rfl, rfl, rfl, rfl, rfl⟩, ⟨_, Try.underlying125, trivial⟩, rfl, rfl, rfl, by decide⟩
theorem tab126 : TI.ok Try.prog 126 { d := .oth, agg := false, sz := 1, bytes := 8, zero := [.nilFunc] } :=
  ⟨⟨_, _, (by kernel_rfl : Try.prog.info? 126 = some Try.t126), rfl, rfl, rfl, rfl, rfl⟩, ⟨_, Try.underlying126, trivial⟩, rfl, rfl, rfl, by decide⟩
theorem tab127 : TI.ok Try.prog 127 { d := .int .i64, agg := false, sz := 1, bytes := 8, zero := [.int .i64 0] } :=
  ⟨⟨_, _, (by kernel_rfl : Try.prog.info? 127 = some Try.t127), rfl, rfl, rfl, rfl, rfl⟩, ⟨_, Try.underlying127, rfl⟩, rfl, rfl, rfl, by decide⟩
theorem tab129 : TI.ok Try.prog 129 { d := .oth, agg := false, sz := 1, bytes := 8, zero := [.nilFunc] } :=
  ⟨⟨_, _, (by kernel_rfl : Try.prog.info? 129 = some Try.t129), rfl, rfl, rfl, rfl, rfl⟩, ⟨_, Try.underlying129, trivial⟩, rfl, rfl, rfl, by decide⟩
theorem tab130 : TI.ok Try.prog 130 { d := .oth, agg := false, sz := 1, bytes := 8, zero := [.nilFunc] } :=
  ⟨⟨_, _, (by kernel_rfl : Try.prog.info? 130 = some Try.t130), rfl, rfl, rfl, rfl, rfl⟩, ⟨_, Try.underlying130, trivial⟩, rfl, rfl, rfl, by decide⟩
theorem tab131 : TI.ok Try.prog 131 { d := .oth, agg := false, sz := 1, bytes := 8, zero := [.nilFunc] } :=
  ⟨⟨_, _, (by kernel_rfl : Try.prog.info? 131 = some Try.t131), rfl, rfl, rfl, rfl, rfl⟩, ⟨_, Try.underlying131, trivial⟩, rfl, rfl, rfl, by decide⟩
theorem tab133 : TI.ok Try.prog 133 { d := .oth, agg := false, sz := 1, bytes := 8, zero := [.nilFunc] } :=
  ⟨⟨_, _, (by kernel_rfl : Try.prog.info? 133 = some Try.t133), rfl, rfl, rfl, rfl, rfl⟩, ⟨_, Try.underlying133, trivial⟩, rfl, rfl, rfl, by decide⟩
theorem tab134 : TI.ok Try.prog 134 { d := .oth, agg := false, sz := 1, bytes := 8, zero := [.nilFunc] } :=
  ⟨⟨_, _, (by kernel_rfl : Try.prog.info? 134 = some Try.t134), rfl, rfl, rfl, rfl, rfl⟩, ⟨_, Try.underlying134, trivial⟩, rfl, rfl, rfl, by decide⟩
theorem tab135 : TI.ok Try.prog 135 { d := .int .u32, agg := false, sz := 1, bytes := 4, zero := [.int .u32 0] } :=
  ⟨⟨_, _, (by kernel_rfl : Try.prog.info? 135 = some Try.t135), rfl, rfl, rfl, rfl, rfl⟩, ⟨_, Try.underlying135, rfl⟩, rfl, rfl, rfl, by decide⟩
theorem tab136 : TI.ok Try.prog 136 { d := .oth, agg := false, sz := 1, bytes := 8, zero := [.nilFunc] } :=
  ⟨⟨_, _, (by kernel_rfl : Try.prog.info? 136 = some Try.t136), rfl, rfl, rfl, rfl, rfl⟩, ⟨_, Try.underlying136, trivial⟩, rfl, rfl, rfl, by decide⟩
theorem tab137 : TI.ok Try.prog 137 { d := .int .u64, agg := false, sz := 1, bytes := 8, zero := [.int .u64 0] } :=
  ⟨⟨_, _, (by kernel_rfl : Try.prog.info? 137 = some Try.t137), rfl, rfl, rfl, rfl, rfl⟩, ⟨_, Try.underlying137, rfl⟩, rfl, rfl, rfl, by decide⟩
theorem tab138 : TI.ok Try.prog 138 { d := .int .u64, agg := false, sz := 1, bytes := 8, zero := [.int .u64 0] } :=
  ⟨⟨_, _, (by kernel_rfl : Try.prog.info? 138 = some Try.t138), rfl, rfl, rfl, rfl, rfl⟩, ⟨_, Try.underlying138, rfl⟩, rfl, rfl, rfl, by decide⟩
theorem tab139 : TI.ok Try.prog 139 { d := .oth, agg := false, sz := 1, bytes := 8, zero := [.nilFunc] } :=
  ⟨⟨_, _, (by kernel_rfl : Try.prog.info? 139 = some Try.t139), rfl, rfl, rfl, rfl, rfl⟩, ⟨_, Try.underlying139, trivial⟩, rfl, rfl, rfl, by decide⟩
theorem tab140 : TI.ok Try.prog 140 { d := .oth, agg := false, sz := 1, bytes := 8, zero := [.nilFunc] } :=
  ⟨⟨_, _, (by kernel_rfl : Try.prog.info? 140 = some Try.t140), rfl, rfl, rfl, rfl, rfl⟩, ⟨_, Try.underlying140, trivial⟩, rfl, rfl, rfl, by decide⟩
theorem tab141 : TI.ok Try.prog 141 { d := .oth, agg := false, sz := 1, bytes := 8, zero := [.nilFunc] } :=
  ⟨⟨_, _, (by kernel_rfl : Try.prog.info? 141 = some Try.t141), rfl, rfl, rfl, rfl, rfl⟩, ⟨_, Try.underlying141, trivial⟩, rfl, rfl, rfl, by decide⟩
theorem tab142 : TI.ok Try.prog 142 { d := .oth, agg := false, sz := 1, bytes := 8, zero := [.pointer none] } :=
  ⟨⟨_, _, (by kernel_rfl : Try.prog.info? 142 = some Try.t142), rfl, rfl, rfl, rfl, rfl⟩, ⟨_, Try.underlying142, trivial⟩, rfl, rfl, rfl, by decide⟩
theorem tab143 : TI.ok Try.prog 143 { d := .oth, agg := false, sz := 1, bytes := 8, zero := [.nilFunc] } :=
  ⟨⟨_, _, (by kernel_rfl : Try.prog.info? 143 = some Try.t143), rfl, rfl, rfl, rfl, rfl⟩, ⟨_, Try.underlying143, trivial⟩, rfl, rfl, rfl, by decide⟩
theorem tab144 : TI.ok Try.prog 144 { d := .oth, agg := false, sz := 1, bytes := 8, zero := [.pointer none] } :=
  ⟨⟨_, _, (by kernel_rfl : Try.prog.info? 144 = some Try.t144), rfl, rfl, rfl, rfl, rfl⟩, ⟨_, Try.underlying144, trivial⟩, rfl, rfl, rfl, by decide⟩
theorem tab146 : TI.ok Try.prog 146 { d := .oth, agg := false, sz := 1, bytes := 8, zero := [.nilFunc] } :=
  ⟨⟨_, _, (by kernel_rfl : Try.prog.info? 146 = some Try.t146), rfl, rfl, rfl, rfl, rfl⟩, ⟨_, Try.underlying146, trivial⟩, rfl, rfl, rfl, by decide⟩
theorem tab147 : TI.ok Try.prog 147 { d := .oth, agg := false, sz := 1, bytes := 8, zero := [.nilFunc] } :=
  ⟨⟨_, _, (by kernel_rfl : Try.prog.info? 147 = some Try.t147), rfl, rfl, rfl, rfl, rfl⟩, ⟨_, Try.underlying147, trivial⟩, rfl, rfl, rfl, by decide⟩
theorem tab153 : TI.ok Try.prog 153 { d := .oth, agg := false, sz := 1, bytes := 8, zero := [.nilFunc] } :=
  ⟨⟨_, _, (by kernel_rfl : Try.prog.info? 153 = some Try.t153), rfl, rfl, rfl, rfl, rfl⟩, ⟨_, Try.underlying153, trivial⟩, rfl, rfl, rfl, by decide⟩
theorem tab154 : TI.ok Try.prog 154 { d := .int .u8, agg := false, sz := 1, bytes := 1, zero := [.int .u8 0] } :=
  ⟨⟨_, _, (by kernel_rfl : Try.prog.info? 154 = some Try.t154), rfl, rfl, rfl, rfl, rfl⟩, ⟨_, Try.underlying154, rfl⟩, rfl, rfl, rfl, by decide⟩
theorem tab155 : TI.ok Try.prog 155 { d := .int .u8, agg := false, sz := 1, bytes := 1, zero := [.int .u8 0] } :=
  ⟨⟨_, _, (by kernel_rfl : Try.prog.info? 155 = some Try.t155), rfl, rfl, rfl, rfl, rfl⟩, ⟨_, Try.underlying155, rfl⟩, rfl, rfl, rfl, by decide⟩
theorem tab156 : TI.ok Try.prog 156 { d := .oth, agg := false, sz := 1, bytes := 8, zero := [.nilFunc] } :=
  ⟨⟨_, _, (by kernel_rfl : Try.prog.info? 156 = some Try.t156), rfl, rfl, rfl, rfl, rfl⟩, ⟨_, Try.underlying156, trivial⟩, rfl, rfl, rfl, by decide⟩
theorem tab157 : TI.ok Try.prog 157 { d := .oth, agg := false, sz := 1, bytes := 8, zero := [.pointer none] } :=
  ⟨⟨_, _, (by kernel_rfl : Try.prog.info? 157 = some Try.t157), rfl, rfl, rfl, rfl, rfl⟩, ⟨_, Try.underlying157, trivial⟩, rfl, rfl, rfl, by decide⟩
theorem tab158 : TI.ok Try.prog 158 { d := .int .i32, agg := false, sz := 1, bytes := 4, zero := [.int .i32 0] } :=
  ⟨⟨_, _, (by kernel_rfl : Try.prog.info? 158 = some Try.t158), rfl, rfl, rfl, rfl, rfl⟩, ⟨_, Try.underlying158, rfl⟩, rfl, rfl, rfl, by decide⟩
theorem tab159 : TI.ok Try.prog 159 { d := .int .i32, agg := false, sz := 1, bytes := 4, zero := [.int .i32 0] } :=
  ⟨⟨_, _, (by kernel_rfl : Try.prog.info? 159 = some Try.t159), rfl, rfl, rfl, rfl, rfl⟩, ⟨_, Try.underlying159, rfl⟩, rfl, rfl, rfl, by decide⟩
theorem tab160 : TI.ok Try.prog 160 { d := .st [(12, 0), (12, 1), (135, 2), (154, 3), (5, 4), (5, 5), (155, 6), (156, 7), (157, 8), (158, 9), (159, 10)], agg := true, sz := 11, bytes := 48, zero := [.int .u64 0, .int .u64 0, .int .u32 0, .int .u8 0, .int .u8 0, .int .u8 0, .int .u8 0, .nilFunc, .pointer none, .int .i32 0, .int .i32 0] } :=
  ⟨⟨_, _, (by kernel_rfl : Try.prog.info? 160 = some Try.t160), rfl, rfl, rfl, rfl, rfl⟩, ⟨_, Try.underlying160, ⟨_, rfl, rfl⟩⟩, rfl, rfl, rfl, by decide⟩
theorem tab161 : TI.ok Try.prog 161 { d := .st [(12, 0), (12, 1), (135, 2), (154, 3), (5, 4), (5, 5), (155, 6), (156, 7), (157, 8), (158, 9), (159, 10)], agg := true, sz := 11, bytes := 48, zero := [.int .u64 0, .int .u64 0, .int .u32 0, .int .u8 0, .int .u8 0, .int .u8 0, .int .u8 0, .nilFunc, .pointer none, .int .i32 0, .int .i32 0] } :=
  ⟨⟨_, _, (by kernel_rfl : Try.prog.info? 161 = some Try.t161), rfl, rfl, rfl, rfl, rfl⟩, ⟨_, Try.underlying161, ⟨_, rfl, rfl⟩⟩, rfl, rfl, rfl, by decide⟩
theorem tab162 : TI.ok Try.prog 162 { d := .oth, agg := false, sz := 1, bytes := 8, zero := [.pointer none] } :=
  ⟨⟨_, _, (by kernel_rfl : Try.prog.info? 162 = some Try.t162), rfl, rfl, rfl, rfl, rfl⟩, ⟨_, Try.underlying162, trivial⟩, rfl, rfl, rfl, by decide⟩
theorem tab_ok : ∀ t i, tab t = some i → TI.ok Try.prog t i := tlook_ok _ tabL ⟨tab1, tab2, tab3, tab4, tab5, tab6, tab7, tab8, tab12, tab15, tab16, tab17, tab18, tab19, tab21, tab22, tab23, tab24, tab25, tab26, tab27, tab28, tab29, tab30, tab31, tab32, tab33, tab34, tab35, tab36, tab37, tab38, tab39, tab40, tab42, tab43, tab44, tab45, tab46, tab48, tab49, tab50, tab51, tab52, tab53, tab54, tab55, tab56, tab57, tab58, tab59, tab60, tab61, tab62, tab63, tab65, tab66, tab67, tab68, tab69, tab70, tab71, tab72, tab73, tab74, tab75, tab76, tab77, tab78, tab79, tab80, tab81, tab82, tab83, tab84, tab85, tab86, tab87, tab88, tab89, tab90, tab91, tab92, tab93, tab94, tab95, tab96, tab97, tab98, tab99, tab100, tab101, tab102, tab103, tab104, tab105, tab106, tab107, tab108, tab109, tab110, tab111, tab112, tab113, tab114, tab115, tab116, tab117, tab118, tab119, tab120, tab121, tab122, tab123, tab124, tab125, tab126, tab127, tab129, tab130, tab131, tab133, tab134, tab135, tab136, tab137, tab138, tab139, tab140, tab141, tab142, tab143, tab144, tab146, tab147, tab153, tab154, tab155, tab156, tab157, tab158, tab159, tab160, tab161, tab162, trivial⟩
def eqL : List (Nat × EqK) := [(4, .bool), (46, .ints [.i64, .i64, .i64, .i64]), (50, .ints [.i64, .i64]), (58, .ints [.i64, .i64])]
def eqt : EqTab := tlook eqL
theorem eql46 (a0 a1 a2 a3 b0 b1 b2 b3 : Int) (w : World) : (binOp .eql 46 (.agg #[.int .i64 a0, .int .i64 a1, .int .i64 a2, .int .i64 a3]) (.agg #[.int .i64 b0, .int .i64 b1, .int .i64 b2, .int .i64 b3])).run Try.prog w = .ok (.bool (decide ([a0, a1, a2, a3] = [b0, b1, b2, b3]))) w := by
  by_cases h0 : a0 = b0 <;> by_cases h1 : a1 = b1 <;> by_cases h2 : a2 = b2 <;> by_cases h3 : a3 = b3 <;> simp [go_sem, h0, h1, h2, h3]
theorem neq46 (a0 a1 a2 a3 b0 b1 b2 b3 : Int) (w : World) : (binOp .neq 46 (.agg #[.int .i64 a0, .int .i64 a1, .int .i64 a2, .int .i64 a3]) (.agg #[.int .i64 b0, .int .i64 b1, .int .i64 b2, .int .i64 b3])).run Try.prog w = .ok (.bool (!decide ([a0, a1, a2, a3] = [b0, b1, b2, b3]))) w := by
  by_cases h0 : a0 = b0 <;> by_cases h1 : a1 = b1 <;> by_cases h2 : a2 = b2 <;> by_cases h3 : a3 = b3 <;> simp [go_sem, h0, h1, h2, h3]
theorem eql50 (a0 a1 b0 b1 : Int) (w : World) : (binOp .eql 50 (.agg #[.int .i64 a0, .int .i64 a1]) (.agg #[.int .i64 b0, .int .i64 b1])).run Try.prog w = .ok (.bool (decide ([a0, a1] = [b0, b1]))) w := by
  by_cases h0 : a0 = b0 <;> by_cases h1 : a1 = b1 <;> simp [go_sem, h0, h1]
theorem neq50 (a0 a1 b0 b1 : Int) (w : World) : (binOp .neq 50 (.agg #[.int .i64 a0, .int .i64 a1]) (.agg #[.int .i64 b0, .int .i64 b1])).run Try.prog w = .ok (.bool (!decide ([a0, a1] = [b0, b1]))) w := by
  by_cases h0 : a0 = b0 <;> by_cases h1 : a1 = b1 <;> simp [go_sem, h0, h1]
theorem eql58 (a0 a1 b0 b1 : Int) (w : World) : (binOp .eql 58 (.agg #[.int .i64 a0, .int .i64 a1]) (.agg #[.int .i64 b0, .int .i64 b1])).run Try.prog w = .ok (.bool (decide ([a0, a1] = [b0, b1]))) w := by
  by_cases h0 : a0 = b0 <;> by_cases h1 : a1 = b1 <;> simp [go_sem, h0, h1]
theorem neq58 (a0 a1 b0 b1 : Int) (w : World) : (binOp .neq 58 (.agg #[.int .i64 a0, .int .i64 a1]) (.agg #[.int .i64 b0, .int .i64 b1])).run Try.prog w = .ok (.bool (!decide ([a0, a1] = [b0, b1]))) w := by
  by_cases h0 : a0 = b0 <;> by_cases h1 : a1 = b1 <;> simp [go_sem, h0, h1]
theorem eqt_ok : EqOK Try.prog eqt := by
  refine tlook_ok _ eqL ⟨?_, ?_, ?_, ?_, trivial⟩
  · exact Try.underlying4
  · refine ⟨Try.eqGuardType46, fun xs ys w h1 h2 => ?_⟩
    match xs, ys, h1, h2 with
    | [a0, a1, a2, a3], [b0, b1, b2, b3], _, _ => exact ⟨eql46 a0 a1 a2 a3 b0 b1 b2 b3 w, neq46 a0 a1 a2 a3 b0 b1 b2 b3 w⟩
  · refine ⟨Try.eqGuardType50, fun xs ys w h1 h2 => ?_⟩
    match xs, ys, h1, h2 with
    | [a0, a1], [b0, b1], _, _ => exact ⟨eql50 a0 a1 b0 b1 w, neq50 a0 a1 b0 b1 w⟩
  · refine ⟨Try.eqGuardType58, fun xs ys w h1 h2 => ?_⟩
    match xs, ys, h1, h2 with
    | [a0, a1], [b0, b1], _, _ => exact ⟨eql58 a0 a1 b0 b1 w, neq58 a0 a1 b0 b1 w⟩
theorem env : Env Try.prog tab eqt := ⟨tab_ok, eqt_ok, by kernel_rfl⟩
end Go.Proofs.Ytcfkpdjbjfnnmaa
