/-
  No statement is proved here: the tables of the program, and that they tell it.
  No condition.
-/
import Derived.Test.YtemccfonjeppjaaProg
import Derived.Test.YtemccfonjeppjaaRd
import Derived.KernelRfl
namespace Go.Proofs.GR.T
open Go.Proofs
noncomputable def undL : List (Option TypeDesc) := [none, none, none, some (.int .i64), some (.bool), some (.int .u8), none, none, none, some (.string), none, none, none, none, none, none, none, none, none, none, none, none, none, some (.struct #[⟨ "Size", 3, 0, false, "", "", 0⟩, ⟨ "Bytes", 9, 1, false, "", "", 8⟩, ⟨ "Done", 4, 2, false, "", "", 24⟩]), none, none, some (.struct #[⟨ "Size", 3, 0, false, "", "", 0⟩, ⟨ "Bytes", 9, 1, false, "", "", 8⟩, ⟨ "Done", 4, 2, false, "", "", 24⟩]), none, none, none, none, none, none, some (.slice 5), none, none, none, none, none, none, some (.slice 9), none, none, none, none, some (.slice 156), none, some (.struct #[⟨ "Table", 9, 0, false, "", "", 0⟩, ⟨ "Column", 3, 1, false, "", "", 16⟩, ⟨ "Steps", 45, 2, false, "", "", 24⟩]), some (.slice 123), none, some (.struct #[⟨ "Event", 3, 0, false, "", "", 0⟩, ⟨ "Table", 9, 1, false, "", "", 8⟩, ⟨ "Old", 48, 2, false, "", "", 24⟩, ⟨ "New", 48, 3, false, "", "", 48⟩]), none, none, none, none, some (.slice 157), none, some (.struct #[⟨ "Table", 9, 0, false, "", "", 0⟩, ⟨ "Column", 3, 1, false, "", "", 16⟩, ⟨ "Steps", 55, 2, false, "", "", 24⟩]), none, some (.slice 121), none, some (.struct #[⟨ "Event", 3, 0, false, "", "", 0⟩, ⟨ "Table", 9, 1, false, "", "", 8⟩, ⟨ "Old", 59, 2, false, "", "", 24⟩, ⟨ "New", 59, 3, false, "", "", 48⟩]), none, none, none, none, none, none, none, none, some (.slice 50), none, none, none, some (.slice 61), none, none, none, none, none, some (.slice 173), none, none, some (.slice 179), none, none, some (.int .u64), some (.slice 189), none, some (.struct #[⟨ "Nodes", 87, 0, false, "", "", 0⟩]), none, some (.slice 197), none, some (.struct #[⟨ "Nodes", 91, 0, false, "", "", 0⟩]), none, none, none, none, none, none, none, none, none, none, none, some (.int .u64), none, none, none, none, none, none, none, some (.pointer 115), none, some (.struct #[⟨ "b", 33, 0, false, "", "loop.example/g00208/spec", 0⟩, ⟨ "at", 3, 1, false, "", "loop.example/g00208/spec", 24⟩, ⟨ "bad", 4, 2, false, "", "loop.example/g00208/spec", 32⟩]), none, none, none, none, none, some (.struct #[⟨ "Kind", 3, 0, false, "", "", 0⟩, ⟨ "N", 3, 1, false, "", "", 8⟩, ⟨ "T", 9, 2, false, "", "", 16⟩]), none, some (.struct #[⟨ "Kind", 3, 0, false, "", "", 0⟩, ⟨ "N", 3, 1, false, "", "", 8⟩, ⟨ "T", 9, 2, false, "", "", 16⟩]), none, none, none, none, none, some (.pointer 169), none, none, none, none, none, none, none, none, none, none, none, none, none, none, none, none, none, none, none, none, none, some (.int .u32), none, none, none, none, some (.struct #[⟨ "Key", 9, 0, false, "", "", 0⟩, ⟨ "Value", 9, 1, false, "", "", 16⟩]), some (.struct #[⟨ "Key", 9, 0, false, "", "", 0⟩, ⟨ "Value", 9, 1, false, "", "", 16⟩]), none, none, none, none, none, none, none, none, none, none, none, some (.struct #[⟨ "code", 33, 0, false, "", "loop.example/g00208/spec", 0⟩, ⟨ "at", 3, 1, false, "", "loop.example/g00208/spec", 24⟩, ⟨ "seed", 3, 2, false, "", "loop.example/g00208/spec", 32⟩]), some (.slice 213), some (.slice 215), none, some (.struct #[⟨ "Name", 9, 0, false, "", "", 0⟩, ⟨ "Columns", 170, 1, false, "", "", 16⟩, ⟨ "Key", 3, 2, false, "", "", 40⟩, ⟨ "Indexes", 171, 3, false, "", "", 48⟩]), none, none, none, some (.slice 59), none, some (.struct #[⟨ "Name", 9, 0, false, "", "", 0⟩, ⟨ "Rows", 177, 1, false, "", "", 16⟩]), none, none, none, none, none, none, none, some (.slice 3), none, some (.struct #[⟨ "Leaf", 4, 0, false, "", "", 0⟩, ⟨ "Keys", 40, 1, false, "", "", 8⟩, ⟨ "Vals", 40, 2, false, "", "", 32⟩, ⟨ "Kids", 187, 3, false, "", "", 56⟩]), none, none, some (.pointer 194), none, some (.struct #[⟨ "nodes", 91, 0, false, "", "loop.example/g00208/spec", 0⟩]), none, none, some (.struct #[⟨ "Leaf", 4, 0, false, "", "", 0⟩, ⟨ "Keys", 40, 1, false, "", "", 8⟩, ⟨ "Vals", 40, 2, false, "", "", 32⟩, ⟨ "Kids", 187, 3, false, "", "", 56⟩]), none, none, none, some (.pointer 93), none, none, none, none, none, none, none, none, none, none, none, some (.struct #[⟨ "Name", 9, 0, false, "", "", 0⟩, ⟨ "Type", 3, 1, false, "", "", 16⟩, ⟨ "Null", 4, 2, false, "", "", 24⟩]), none, some (.struct #[⟨ "Name", 9, 0, false, "", "", 0⟩, ⟨ "Columns", 187, 1, false, "", "", 16⟩]), none, none, none, none, none, none, none, none, none, none, none, none, some (.struct #[⟨ "key", 9, 0, false, "", "loop.example/g00208/impl", 0⟩, ⟨ "has", 4, 1, false, "", "loop.example/g00208/impl", 16⟩]), none, none, some (.pointer 197), none, none, none, none, none, none, none, none, none, none, none, none, none, none, none, none, none, some (.slice 40), none, some (.slice 187)]
noncomputable def infoL : List (Option (Value × Nat × Nat)) := [none, none, none, some ((.int .i64 0, 1, 8)), some ((.bool false, 1, 1)), some ((.int .u8 0, 1, 1)), none, none, none, some ((.string ByteArray.empty, 1, 16)), none, none, none, none, none, none, none, none, none, none, none, none, none, some ((.agg #[.int .i64 0, .string ByteArray.empty, .bool false], 3, 32)), none, none, some ((.agg #[.int .i64 0, .string ByteArray.empty, .bool false], 3, 32)), none, none, none, none, none, none, some ((.slice none 0 0, 1, 24)), none, none, none, none, none, none, some ((.slice none 0 0, 1, 24)), none, none, none, none, some ((.slice none 0 0, 1, 24)), none, some ((.agg #[.string ByteArray.empty, .int .i64 0, .slice none 0 0], 3, 48)), some ((.slice none 0 0, 1, 24)), none, some ((.agg #[.int .i64 0, .string ByteArray.empty, .slice none 0 0, .slice none 0 0], 4, 72)), none, none, none, none, some ((.slice none 0 0, 1, 24)), none, some ((.agg #[.string ByteArray.empty, .int .i64 0, .slice none 0 0], 3, 48)), none, some ((.slice none 0 0, 1, 24)), none, some ((.agg #[.int .i64 0, .string ByteArray.empty, .slice none 0 0, .slice none 0 0], 4, 72)), none, none, none, none, none, none, none, none, some ((.slice none 0 0, 1, 24)), none, none, none, some ((.slice none 0 0, 1, 24)), none, none, none, none, none, some ((.slice none 0 0, 1, 24)), none, none, some ((.slice none 0 0, 1, 24)), none, none, some ((.int .u64 0, 1, 8)), some ((.slice none 0 0, 1, 24)), none, some ((.agg #[.slice none 0 0], 1, 24)), none, some ((.slice none 0 0, 1, 24)), none, some ((.agg #[.slice none 0 0], 1, 24)), none, none, none, none, none, none, none, none, none, none, none, some ((.int .u64 0, 1, 8)), none, none, none, none, none, none, none, some ((.pointer none, 1, 8)), none, some ((.agg #[.slice none 0 0, .int .i64 0, .bool false], 3, 40)), none, none, none, none, none, some ((.agg #[.int .i64 0, .int .i64 0, .string ByteArray.empty], 3, 32)), none, some ((.agg #[.int .i64 0, .int .i64 0, .string ByteArray.empty], 3, 32)), none, none, none, none, none, some ((.pointer none, 1, 8)), none, none, none, none, none, none, none, none, none, none, none, none, none, none, none, none, none, none, none, none, none, some ((.int .u32 0, 1, 4)), none, none, none, none, some ((.agg #[.string ByteArray.empty, .string ByteArray.empty], 2, 32)), some ((.agg #[.string ByteArray.empty, .string ByteArray.empty], 2, 32)), none, none, none, none, none, none, none, none, none, none, none, some ((.agg #[.slice none 0 0, .int .i64 0, .int .i64 0], 3, 40)), some ((.slice none 0 0, 1, 24)), some ((.slice none 0 0, 1, 24)), none, some ((.agg #[.string ByteArray.empty, .slice none 0 0, .int .i64 0, .slice none 0 0], 4, 72)), none, none, none, some ((.slice none 0 0, 1, 24)), none, some ((.agg #[.string ByteArray.empty, .slice none 0 0], 2, 40)), none, none, none, none, none, none, none, some ((.slice none 0 0, 1, 24)), none, some ((.agg #[.bool false, .slice none 0 0, .slice none 0 0, .slice none 0 0], 4, 80)), none, none, some ((.pointer none, 1, 8)), none, some ((.agg #[.slice none 0 0], 1, 24)), none, none, some ((.agg #[.bool false, .slice none 0 0, .slice none 0 0, .slice none 0 0], 4, 80)), none, none, none, some ((.pointer none, 1, 8)), none, none, none, none, none, none, none, none, none, none, none, some ((.agg #[.string ByteArray.empty, .int .i64 0, .bool false], 3, 32)), none, some ((.agg #[.string ByteArray.empty, .slice none 0 0], 2, 40)), none, none, none, none, none, none, none, none, none, none, none, none, some ((.agg #[.string ByteArray.empty, .bool false], 2, 24)), none, none, some ((.pointer none, 1, 8)), none, none, none, none, none, none, none, none, none, none, none, none, none, none, none, none, none, some ((.slice none 0 0, 1, 24)), none, some ((.slice none 0 0, 1, 24))]
noncomputable def tyL : List (Option Ty) := [none, none, none, some ((.int .i64)), some (.bool), some ((.int .u8)), none, none, none, some (.str), none, none, none, none, none, none, none, none, none, none, none, none, none, some ((.pair (.int .i64) (.pair .str .bool))), none, none, some ((.pair (.int .i64) (.pair .str .bool))), none, none, none, none, none, none, some ((.slice (.int .u8))), none, none, none, none, none, none, some ((.slice .str)), none, none, none, none, some ((.slice (.pair .str .str))), none, some ((.pair .str (.pair (.int .i64) (.slice (.pair .str .str))))), some ((.slice (.pair (.int .i64) (.pair (.int .i64) .str)))), none, some ((.pair (.int .i64) (.pair .str (.pair (.slice (.pair (.int .i64) (.pair (.int .i64) .str))) (.slice (.pair (.int .i64) (.pair (.int .i64) .str))))))), none, none, none, none, some ((.slice (.pair .str .str))), none, some ((.pair .str (.pair (.int .i64) (.slice (.pair .str .str))))), none, some ((.slice (.pair (.int .i64) (.pair (.int .i64) .str)))), none, some ((.pair (.int .i64) (.pair .str (.pair (.slice (.pair (.int .i64) (.pair (.int .i64) .str))) (.slice (.pair (.int .i64) (.pair (.int .i64) .str))))))), none, none, none, none, none, none, none, none, some ((.slice (.pair (.int .i64) (.pair .str (.pair (.slice (.pair (.int .i64) (.pair (.int .i64) .str))) (.slice (.pair (.int .i64) (.pair (.int .i64) .str)))))))), none, none, none, some ((.slice (.pair (.int .i64) (.pair .str (.pair (.slice (.pair (.int .i64) (.pair (.int .i64) .str))) (.slice (.pair (.int .i64) (.pair (.int .i64) .str)))))))), none, none, none, none, none, some ((.slice (.pair .str (.pair (.slice (.pair .str (.pair (.int .i64) .bool))) (.pair (.int .i64) (.slice (.pair .str (.slice (.int .i64))))))))), none, none, some ((.slice (.pair .str (.slice (.slice (.pair (.int .i64) (.pair (.int .i64) .str))))))), none, none, some ((.int .u64)), some ((.slice (.pair .bool (.pair (.slice .str) (.pair (.slice .str) (.slice (.int .i64))))))), none, some ((.slice (.pair .bool (.pair (.slice .str) (.pair (.slice .str) (.slice (.int .i64))))))), none, some ((.slice (.pair .bool (.pair (.slice .str) (.pair (.slice .str) (.slice (.int .i64))))))), none, some ((.slice (.pair .bool (.pair (.slice .str) (.pair (.slice .str) (.slice (.int .i64))))))), none, none, none, none, none, none, none, none, none, none, none, some ((.int .u64)), none, none, none, none, none, none, none, none, none, some ((.pair (.slice (.int .u8)) (.pair (.int .i64) .bool))), none, none, none, none, none, some ((.pair (.int .i64) (.pair (.int .i64) .str))), none, some ((.pair (.int .i64) (.pair (.int .i64) .str))), none, none, none, none, none, none, none, none, none, none, none, none, none, none, none, none, none, none, none, none, none, none, none, none, none, none, none, some ((.int .u32)), none, none, none, none, some ((.pair .str .str)), some ((.pair .str .str)), none, none, none, none, none, none, none, none, none, none, none, some ((.pair (.slice (.int .u8)) (.pair (.int .i64) (.int .i64)))), some ((.slice (.pair .str (.pair (.int .i64) .bool)))), some ((.slice (.pair .str (.slice (.int .i64))))), none, some ((.pair .str (.pair (.slice (.pair .str (.pair (.int .i64) .bool))) (.pair (.int .i64) (.slice (.pair .str (.slice (.int .i64)))))))), none, none, none, some ((.slice (.slice (.pair (.int .i64) (.pair (.int .i64) .str))))), none, some ((.pair .str (.slice (.slice (.pair (.int .i64) (.pair (.int .i64) .str)))))), none, none, none, none, none, none, none, some ((.slice (.int .i64))), none, some ((.pair .bool (.pair (.slice .str) (.pair (.slice .str) (.slice (.int .i64)))))), none, none, none, none, some ((.slice (.pair .bool (.pair (.slice .str) (.pair (.slice .str) (.slice (.int .i64))))))), none, none, some ((.pair .bool (.pair (.slice .str) (.pair (.slice .str) (.slice (.int .i64)))))), none, none, none, none, none, none, none, none, none, none, none, none, none, none, none, some ((.pair .str (.pair (.int .i64) .bool))), none, some ((.pair .str (.slice (.int .i64)))), none, none, none, none, none, none, none, none, none, none, none, none, some ((.pair .str .bool)), none, none, none, none, none, none, none, none, none, none, none, none, none, none, none, none, none, none, none, none, some ((.slice (.slice .str))), none, some ((.slice (.slice (.int .i64))))]
noncomputable def eqL : List (Option (List Ty)) := [none, none, none, none, none, none, none, none, none, none, none, none, none, none, none, none, none, none, none, none, none, none, none, none, none, none, none, none, none, none, none, none, none, none, none, none, none, none, none, none, none, none, none, none, none, none, none, none, none, none, none, none, none, none, none, none, none, none, none, none, none, none, none, none, none, none, none, none, none, none, none, none, none, none, none, none, none, none, none, none, none, none, none, none, none, none, none, none, none, none, none, none, none, none, none, none, none, none, none, none, none, none, none, none, none, none, none, none, none, none, none, none, none, none, none, none, none, none, none, none, none, some ([.int .i64, .int .i64, .str]), none, none, none, none, none, none, none, none, none, none, none, none, none, none, none, none, none, none, none, none, none, none, none, none, none, none, none, none, none, none, none, none, none, none, none, some ([.str, .str]), none, none, none, none, none, none, none, none, none, none, none, none, none, none, none, none, none, none, none, none, none, none, none, none, none, none, none, none, none, none, none, none, none, none, none, none, none, none, none, none, none, none, none, none, none, none, none, none, none, none, none, none, none, none, none, none, none, none, none, none, none, none, none, none, none, none, none, none, none, none, none, none, none, none, none, none, none, none, none, none, none, none, none, none, none, none, none, none, none, none, none, none, none, none]
noncomputable def fnL : List (Option Func) := [none, none, none, some Try.f3, some Try.f4, some Try.f5, some Try.f6, some Try.f7, some Try.f8, some Try.f9, some Try.f10, some Try.f11, some Try.f12, some Try.f13, some Try.f14, some Try.f15, some Try.f16, some Try.f17, some Try.f18, some Try.f19, some Try.f20, some Try.f21, some Try.f22, some Try.f23, some Try.f24, some Try.f25, some Try.f26, some Try.f27, some Try.f28, some Try.f29, some Try.f30, some Try.f31, some Try.f32, some Try.f33, some Try.f34, some Try.f35, some Try.f36, some Try.f37, some Try.f38, some Try.f39, some Try.f40, some Try.f41, some Try.f42, some Try.f43, some Try.f44, some Try.f45, some Try.f46, some Try.f47, some Try.f48, some Try.f49, some Try.f50, some Try.f51, some Try.f52, some Try.f53, some Try.f54, some Try.f55, some Try.f56, some Try.f57, some Try.f58, some Try.f59, some Try.f60, some Try.f61, some Try.f62, some Try.f63, some Try.f64, some Try.f65, some Try.f66, some Try.f67, some Try.f68, some Try.f69, some Try.f70, some Try.f71, some Try.f72, some Try.f73, some Try.f74, some Try.f75, some Try.f76, some Try.f77, some Try.f78, some Try.f79, some Try.f80, some Try.f81, some Try.f82, some Try.f83, some Try.f84, some Try.f85, some Try.f86, some Try.f87, some Try.f88, some Try.f89, some Try.f90, some Try.f91, some Try.f92, some Try.f93, some Try.f94, some Try.f95, some Try.f96, some Try.f97, some Try.f98, some Try.f99, some Try.f100, some Try.f101, some Try.f102, some Try.f103, some Try.f104, some Try.f105, some Try.f106, some Try.f107, some Try.f108, some Try.f109, some Try.f110, some Try.f111, some Try.f112, some Try.f113, some Try.f114, some Try.f115, some Try.f116, some Try.f117, some Try.f118, some Try.f119, some Try.f120, some Try.f121, some Try.f122, some Try.f123, some Try.f124, some Try.f125, some Try.f126, some Try.f127, some Try.f128, some Try.f129, some Try.f130, some Try.f131, some Try.f132, some Try.f133, some Try.f134, some Try.f135, some Try.f136, some Try.f137, some Try.f138, some Try.f139, some Try.f140, some Try.f141, some Try.f142, some Try.f143, some Try.f144, some Try.f145, some Try.f146, some Try.f147, some Try.f148, some Try.f149, some Try.f150, some Try.f151, some Try.f152, some Try.f153, some Try.f154, some Try.f155, some Try.f156, some Try.f157, some Try.f158, some Try.f159, some Try.f160, some Try.f161, some Try.f162, some Try.f163, some Try.f164, none, some Try.f166, some Try.f167, some Try.f168, some Try.f169, some Try.f170, some Try.f171, some Try.f172, some Try.f173, some Try.f174, some Try.f175, some Try.f176, some Try.f177, some Try.f178, some Try.f179, some Try.f180, some Try.f181, some Try.f182, some Try.f183, some Try.f184, some Try.f185, some Try.f186, some Try.f187, some Try.f188, some Try.f189, some Try.f190, some Try.f191, some Try.f192, some Try.f193, some Try.f194, some Try.f195, some Try.f196, some Try.f197, some Try.f198, some Try.f199, some Try.f200, some Try.f201, some Try.f202, some Try.f203, some Try.f204, some Try.f205, some Try.f206, some Try.f207, some Try.f208, some Try.f209, some Try.f210, some Try.f211, some Try.f212, some Try.f213, some Try.f214, some Try.f215, some Try.f216, some Try.f217, some Try.f218]
noncomputable def modeL : List (Nat × List Mode) := [(25, [.wr]), (30, [.wr]), (45, [.wr]), (54, [.wr]), (66, [.wr]), (84, [.wr]), (91, [.wr]), (95, [.wr]), (98, [.wr]), (109, [.wr]), (112, [.wr]), (128, [.wr]), (130, [.wr]), (135, [.wr]), (138, [.wr]), (139, [.wr]), (144, [.wr]), (147, [.wr]), (151, [.wr]), (158, [.wr]), (159, [.wr]), (161, [.wr]), (176, [.wr]), (177, [.wr]), (182, [.wr]), (183, [.wr]), (190, [.wr]), (191, [.wr, .wr]), (198, [.wr]), (199, [.wr]), (206, [.wr]), (215, [.ro]), (216, [.ro])]
noncomputable def liveL : List (Nat × List (Nat × List Nat)) := [(12, [(0, [1, 13, 14, 15, 16])]), (22, [(0, [0, 3, 4])]), (24, [(0, [0, 1, 5])]), (25, [(0, [0, 1, 5])]), (26, [(0, [0, 1, 5])]), (29, [(0, [0, 1, 5])]), (30, [(0, [0, 1, 5])]), (31, [(0, [0, 1, 5])]), (44, [(0, [0, 1, 5])]), (45, [(0, [0, 1, 5])]), (46, [(0, [0, 1, 5])]), (47, [(0, [0, 1, 5])]), (48, [(0, [0, 1, 5])]), (49, [(0, [0, 1, 2, 3, 10, 11])]), (50, [(0, [0, 3, 4])]), (51, [(0, [0, 3, 4])]), (52, [(0, [1, 2, 3, 10, 27, 28, 29])]), (53, [(0, [0, 1, 5])]), (54, [(0, [0, 1, 5])]), (55, [(0, [0, 4, 5])]), (73, [(0, [0, 3, 4])]), (74, [(0, [0, 3])]), (75, [(0, [0, 3])]), (77, [(0, [0, 3, 6, 7])]), (78, [(0, [0, 1, 5])]), (80, [(0, [2, 3, 5, 6])]), (81, [(0, [0, 3, 4])]), (83, [(0, [0, 1, 5])]), (84, [(0, [0, 3, 4])]), (85, [(0, [0, 1, 6])]), (88, [(0, [0, 1, 5])]), (90, [(0, [0, 1, 12, 13])]), (92, [(0, [0, 3])]), (93, [(3, [0, 3, 4, 5, 6]), (0, [0, 3, 4])]), (96, [(2, [0, 1, 5, 6]), (0, [0, 1, 5])]), (97, [(2, [0, 1, 5, 6, 8, 9]), (0, [0, 1, 5, 6])]), (98, [(2, [0, 1, 5, 6, 7, 8]), (0, [0, 1, 5, 6])]), (99, [(0, [0, 1, 5])]), (103, [(0, [1, 2, 3, 4])]), (104, [(0, [0, 3, 4])]), (108, [(0, [2, 3, 8, 9, 10])]), (111, [(0, [0, 1, 5])]), (112, [(0, [0, 1, 5])]), (113, [(0, [0, 1, 5])]), (118, [(2, [0, 3, 4, 5]), (0, [0, 3, 4])]), (120, [(2, [0, 3, 7, 8, 17]), (0, [0, 3, 7, 8])]), (122, [(0, [0, 3, 4])]), (129, [(0, [0, 3, 4])]), (135, [(0, [0, 3])]), (137, [(0, [0, 3, 4])]), (138, [(2, [0, 4, 5, 8]), (0, [0, 4, 5, 6, 7])]), (140, [(0, [0, 3])]), (141, [(0, [1, 2, 6])]), (142, [(4, [1, 3, 5, 6]), (2, [1, 3, 5]), (0, [1, 3, 4])]), (143, [(0, [0, 3, 4])]), (146, [(0, [0, 1, 2, 7])]), (147, [(0, [0, 3, 5, 6])]), (149, [(0, [1, 3])]), (150, [(2, [2, 3, 5, 11, 13, 14]), (0, [2, 3, 5, 11, 12])]), (153, [(0, [1, 6, 7, 8])]), (155, [(0, [1, 2, 5])]), (156, [(0, [0, 1, 7, 8])]), (161, [(0, [0, 1, 5])]), (162, [(0, [0, 1, 5])]), (163, [(0, [0, 1, 7, 8])]), (164, [(0, [0, 1, 5, 10, 11])]), (166, [(0, [0, 3, 7, 8])]), (168, [(0, [0, 4, 5])]), (173, [(2, [1, 5]), (0, [1, 3])]), (178, [(0, [0, 1, 5])]), (180, [(4, [1, 5, 8]), (2, [5, 7]), (0, [1, 5, 6])]), (181, [(0, [1, 2, 5])]), (184, [(0, [0, 3, 4])]), (185, [(0, [0, 3, 4])]), (186, [(0, [2, 3, 8, 9, 10])]), (187, [(0, [5, 7, 8, 11, 12, 62, 63, 64])]), (192, [(0, [0, 1, 5])]), (193, [(0, [0, 1, 7, 8])]), (194, [(0, [0, 3])]), (195, [(0, [0, 1, 5])]), (196, [(0, [2, 3, 5])]), (197, [(0, [0, 1, 5])]), (210, [(0, [0, 1, 5])]), (211, [(0, [0, 1, 7, 8])]), (212, [(2, [6, 25, 26, 27]), (0, [0, 3, 9, 10, 11])]), (213, [(2, [6, 25, 26, 27]), (0, [0, 3, 9, 10, 11])]), (214, [(0, [0, 3])])]
noncomputable def outsL : List (Nat × List Bool) := [(21, [true, false]), (22, [true]), (23, [true, false]), (27, [true, false]), (28, [true, false]), (32, [true, false]), (33, [true, false]), (37, [true]), (38, [true]), (42, [true, false]), (43, [true, false]), (49, [true, false]), (50, [true]), (51, [true]), (52, [true, false]), (55, [true, false]), (56, [true, false]), (57, [true]), (58, [true, false]), (59, [true]), (62, [true, false, false]), (63, [true]), (64, [true, false, false]), (71, [true]), (72, [true]), (73, [true]), (74, [true]), (76, [true, false]), (81, [true]), (84, [true]), (85, [true, false]), (93, [true]), (94, [true]), (95, [true]), (97, [true]), (98, [true]), (102, [true, false, false]), (103, [true]), (104, [true]), (108, [true]), (110, [true, false, false]), (116, [true]), (117, [true]), (137, [true]), (138, [true]), (143, [true]), (146, [true]), (147, [true]), (152, [true]), (157, [true]), (158, [true]), (164, [true]), (175, [true]), (183, [true, true]), (184, [true]), (185, [true]), (188, [true]), (189, [true]), (190, [true]), (205, [true]), (206, [true]), (207, [true, false, true]), (209, [true]), (212, [true]), (213, [true]), (215, [true]), (216, [true])]
def find {α : Type} (d : α) : List (Nat × α) → Nat → α
  | [], _ => d
  | p :: l, n => bif Nat.beq p.1 n then p.2 else find d l n
def join {α : Type} : Option (Option α) → Option α
  | some x => x
  | none => none
def extL : List Nat := [165]
noncomputable def Γ : Tab := { fn := fun f => join (lat? fnL f), und := fun t => join (lat? undL t), info := fun t => join (lat? infoL t), ty := fun t => join (lat? tyL t), mode := find [] modeL, live := fun f b => find [] (find [] liveL f) b, outs := find [] outsL, extb := fun f => lhas extL f, eqs := fun t => join (lat? eqL t) }
end Go.Proofs.GR.T

namespace Go.Proofs.GR.T
open Go.Proofs
def AllT {α : Type} (Q : Nat → α → Prop) : Nat → List (Option α) → Prop
  | _, [] => True
  | i, none :: r => AllT Q (i + 1) r
  | i, some d :: r => Q i d ∧ AllT Q (i + 1) r
theorem all_at {α : Type} {Q : Nat → α → Prop} : ∀ (l : List (Option α)) (i : Nat), AllT Q i l → ∀ (t : Nat) (d : α), join (lat? l t) = some d → Q (i + t) d
  | [], i, _, t, d, h => by cases t <;> cases h
  | none :: r, i, ha, 0, d, h => by cases h
  | none :: r, i, ha, t + 1, d, h => by have := all_at r (i + 1) ha t d h; rw [show i + (t + 1) = i + 1 + t by omega]; exact this
  | some x :: r, i, ha, 0, d, h => by cases h; exact ha.1
  | some x :: r, i, ha, t + 1, d, h => by have := all_at r (i + 1) ha.2 t d h; rw [show i + (t + 1) = i + 1 + t by omega]; exact this
def InfoQ (t : Nat) (x : Value × Nat × Nat) : Prop := ∃ i, Try.prog.info? t = some i ∧ i.zero = some x.1 ∧ i.size = x.2.1 ∧ i.bytes = x.2.2 ∧ x.1.cells.size = x.2.1 ∧ x.1.cells.toList.all Value.oneCell' = true
def TyQ (t : Nat) (τ : Ty) : Prop := ∃ i, Try.prog.info? t = some i ∧ i.size = τ.sz ∧ Nat.blt 0 τ.sz = true
def FnQ (f : Nat) (fn : Func) : Prop := Try.prog.funcs[f]? = some fn ∧ (fn.name == "runtime.NumGoroutine") = false
theorem inf3 : Try.prog.info? 3 = some Try.t3 := by kernel_rfl
theorem inf4 : Try.prog.info? 4 = some Try.t4 := by kernel_rfl
theorem inf5 : Try.prog.info? 5 = some Try.t5 := by kernel_rfl
theorem inf9 : Try.prog.info? 9 = some Try.t9 := by kernel_rfl
theorem inf23 : Try.prog.info? 23 = some Try.t23 := by kernel_rfl
theorem inf26 : Try.prog.info? 26 = some Try.t26 := by kernel_rfl
theorem inf33 : Try.prog.info? 33 = some Try.t33 := by kernel_rfl
theorem inf40 : Try.prog.info? 40 = some Try.t40 := by kernel_rfl
theorem inf45 : Try.prog.info? 45 = some Try.t45 := by kernel_rfl
theorem inf47 : Try.prog.info? 47 = some Try.t47 := by kernel_rfl
theorem inf48 : Try.prog.info? 48 = some Try.t48 := by kernel_rfl
theorem inf50 : Try.prog.info? 50 = some Try.t50 := by kernel_rfl
theorem inf55 : Try.prog.info? 55 = some Try.t55 := by kernel_rfl
theorem inf57 : Try.prog.info? 57 = some Try.t57 := by kernel_rfl
theorem inf59 : Try.prog.info? 59 = some Try.t59 := by kernel_rfl
theorem inf61 : Try.prog.info? 61 = some Try.t61 := by kernel_rfl
theorem inf70 : Try.prog.info? 70 = some Try.t70 := by kernel_rfl
theorem inf74 : Try.prog.info? 74 = some Try.t74 := by kernel_rfl
theorem inf80 : Try.prog.info? 80 = some Try.t80 := by kernel_rfl
theorem inf83 : Try.prog.info? 83 = some Try.t83 := by kernel_rfl
theorem inf86 : Try.prog.info? 86 = some Try.t86 := by kernel_rfl
theorem inf87 : Try.prog.info? 87 = some Try.t87 := by kernel_rfl
theorem inf89 : Try.prog.info? 89 = some Try.t89 := by kernel_rfl
theorem inf91 : Try.prog.info? 91 = some Try.t91 := by kernel_rfl
theorem inf93 : Try.prog.info? 93 = some Try.t93 := by kernel_rfl
theorem inf105 : Try.prog.info? 105 = some Try.t105 := by kernel_rfl
theorem inf113 : Try.prog.info? 113 = some Try.t113 := by kernel_rfl
theorem inf115 : Try.prog.info? 115 = some Try.t115 := by kernel_rfl
theorem inf121 : Try.prog.info? 121 = some Try.t121 := by kernel_rfl
theorem inf123 : Try.prog.info? 123 = some Try.t123 := by kernel_rfl
theorem inf129 : Try.prog.info? 129 = some Try.t129 := by kernel_rfl
theorem inf151 : Try.prog.info? 151 = some Try.t151 := by kernel_rfl
theorem inf156 : Try.prog.info? 156 = some Try.t156 := by kernel_rfl
theorem inf157 : Try.prog.info? 157 = some Try.t157 := by kernel_rfl
theorem inf169 : Try.prog.info? 169 = some Try.t169 := by kernel_rfl
theorem inf170 : Try.prog.info? 170 = some Try.t170 := by kernel_rfl
theorem inf171 : Try.prog.info? 171 = some Try.t171 := by kernel_rfl
theorem inf173 : Try.prog.info? 173 = some Try.t173 := by kernel_rfl
theorem inf177 : Try.prog.info? 177 = some Try.t177 := by kernel_rfl
theorem inf179 : Try.prog.info? 179 = some Try.t179 := by kernel_rfl
theorem inf187 : Try.prog.info? 187 = some Try.t187 := by kernel_rfl
theorem inf189 : Try.prog.info? 189 = some Try.t189 := by kernel_rfl
theorem inf192 : Try.prog.info? 192 = some Try.t192 := by kernel_rfl
theorem inf194 : Try.prog.info? 194 = some Try.t194 := by kernel_rfl
theorem inf197 : Try.prog.info? 197 = some Try.t197 := by kernel_rfl
theorem inf201 : Try.prog.info? 201 = some Try.t201 := by kernel_rfl
theorem inf213 : Try.prog.info? 213 = some Try.t213 := by kernel_rfl
theorem inf215 : Try.prog.info? 215 = some Try.t215 := by kernel_rfl
theorem inf228 : Try.prog.info? 228 = some Try.t228 := by kernel_rfl
theorem inf231 : Try.prog.info? 231 = some Try.t231 := by kernel_rfl
theorem inf249 : Try.prog.info? 249 = some Try.t249 := by kernel_rfl
theorem inf251 : Try.prog.info? 251 = some Try.t251 := by kernel_rfl
theorem fnm3 : (Try.f3.name == "runtime.NumGoroutine") = false := by kernel_rfl
theorem fnm4 : (Try.f4.name == "runtime.NumGoroutine") = false := by kernel_rfl
theorem fnm5 : (Try.f5.name == "runtime.NumGoroutine") = false := by kernel_rfl
theorem fnm6 : (Try.f6.name == "runtime.NumGoroutine") = false := by kernel_rfl
theorem fnm7 : (Try.f7.name == "runtime.NumGoroutine") = false := by kernel_rfl
theorem fnm8 : (Try.f8.name == "runtime.NumGoroutine") = false := by kernel_rfl
theorem fnm9 : (Try.f9.name == "runtime.NumGoroutine") = false := by kernel_rfl
theorem fnm10 : (Try.f10.name == "runtime.NumGoroutine") = false := by kernel_rfl
theorem fnm11 : (Try.f11.name == "runtime.NumGoroutine") = false := by kernel_rfl
theorem fnm12 : (Try.f12.name == "runtime.NumGoroutine") = false := by kernel_rfl
theorem fnm13 : (Try.f13.name == "runtime.NumGoroutine") = false := by kernel_rfl
theorem fnm14 : (Try.f14.name == "runtime.NumGoroutine") = false := by kernel_rfl
theorem fnm15 : (Try.f15.name == "runtime.NumGoroutine") = false := by kernel_rfl
theorem fnm16 : (Try.f16.name == "runtime.NumGoroutine") = false := by kernel_rfl
theorem fnm17 : (Try.f17.name == "runtime.NumGoroutine") = false := by kernel_rfl
theorem fnm18 : (Try.f18.name == "runtime.NumGoroutine") = false := by kernel_rfl
theorem fnm19 : (Try.f19.name == "runtime.NumGoroutine") = false := by kernel_rfl
theorem fnm20 : (Try.f20.name == "runtime.NumGoroutine") = false := by kernel_rfl
theorem fnm21 : (Try.f21.name == "runtime.NumGoroutine") = false := by kernel_rfl
theorem fnm22 : (Try.f22.name == "runtime.NumGoroutine") = false := by kernel_rfl
theorem fnm23 : (Try.f23.name == "runtime.NumGoroutine") = false := by kernel_rfl
theorem fnm24 : (Try.f24.name == "runtime.NumGoroutine") = false := by kernel_rfl
theorem fnm25 : (Try.f25.name == "runtime.NumGoroutine") = false := by kernel_rfl
theorem fnm26 : (Try.f26.name == "runtime.NumGoroutine") = false := by kernel_rfl
theorem fnm27 : (Try.f27.name == "runtime.NumGoroutine") = false := by kernel_rfl
theorem fnm28 : (Try.f28.name == "runtime.NumGoroutine") = false := by kernel_rfl
theorem fnm29 : (Try.f29.name == "runtime.NumGoroutine") = false := by kernel_rfl
theorem fnm30 : (Try.f30.name == "runtime.NumGoroutine") = false := by kernel_rfl
theorem fnm31 : (Try.f31.name == "runtime.NumGoroutine") = false := by kernel_rfl
theorem fnm32 : (Try.f32.name == "runtime.NumGoroutine") = false := by kernel_rfl
theorem fnm33 : (Try.f33.name == "runtime.NumGoroutine") = false := by kernel_rfl
theorem fnm34 : (Try.f34.name == "runtime.NumGoroutine") = false := by kernel_rfl
theorem fnm35 : (Try.f35.name == "runtime.NumGoroutine") = false := by kernel_rfl
theorem fnm36 : (Try.f36.name == "runtime.NumGoroutine") = false := by kernel_rfl
theorem fnm37 : (Try.f37.name == "runtime.NumGoroutine") = false := by kernel_rfl
theorem fnm38 : (Try.f38.name == "runtime.NumGoroutine") = false := by kernel_rfl
theorem fnm39 : (Try.f39.name == "runtime.NumGoroutine") = false := by kernel_rfl
theorem fnm40 : (Try.f40.name == "runtime.NumGoroutine") = false := by kernel_rfl
theorem fnm41 : (Try.f41.name == "runtime.NumGoroutine") = false := by kernel_rfl
theorem fnm42 : (Try.f42.name == "runtime.NumGoroutine") = false := by kernel_rfl
theorem fnm43 : (Try.f43.name == "runtime.NumGoroutine") = false := by kernel_rfl
theorem fnm44 : (Try.f44.name == "runtime.NumGoroutine") = false := by kernel_rfl
theorem fnm45 : (Try.f45.name == "runtime.NumGoroutine") = false := by kernel_rfl
theorem fnm46 : (Try.f46.name == "runtime.NumGoroutine") = false := by kernel_rfl
theorem fnm47 : (Try.f47.name == "runtime.NumGoroutine") = false := by kernel_rfl
theorem fnm48 : (Try.f48.name == "runtime.NumGoroutine") = false := by kernel_rfl
theorem fnm49 : (Try.f49.name == "runtime.NumGoroutine") = false := by kernel_rfl
theorem fnm50 : (Try.f50.name == "runtime.NumGoroutine") = false := by kernel_rfl
theorem fnm51 : (Try.f51.name == "runtime.NumGoroutine") = false := by kernel_rfl
theorem fnm52 : (Try.f52.name == "runtime.NumGoroutine") = false := by kernel_rfl
theorem fnm53 : (Try.f53.name == "runtime.NumGoroutine") = false := by kernel_rfl
theorem fnm54 : (Try.f54.name == "runtime.NumGoroutine") = false := by kernel_rfl
theorem fnm55 : (Try.f55.name == "runtime.NumGoroutine") = false := by kernel_rfl
theorem fnm56 : (Try.f56.name == "runtime.NumGoroutine") = false := by kernel_rfl
theorem fnm57 : (Try.f57.name == "runtime.NumGoroutine") = false := by kernel_rfl
theorem fnm58 : (Try.f58.name == "runtime.NumGoroutine") = false := by kernel_rfl
theorem fnm59 : (Try.f59.name == "runtime.NumGoroutine") = false := by kernel_rfl
theorem fnm60 : (Try.f60.name == "runtime.NumGoroutine") = false := by kernel_rfl
theorem fnm61 : (Try.f61.name == "runtime.NumGoroutine") = false := by kernel_rfl
theorem fnm62 : (Try.f62.name == "runtime.NumGoroutine") = false := by kernel_rfl
theorem fnm63 : (Try.f63.name == "runtime.NumGoroutine") = false := by kernel_rfl
theorem fnm64 : (Try.f64.name == "runtime.NumGoroutine") = false := by kernel_rfl
theorem fnm65 : (Try.f65.name == "runtime.NumGoroutine") = false := by kernel_rfl
theorem fnm66 : (Try.f66.name == "runtime.NumGoroutine") = false := by kernel_rfl
theorem fnm67 : (Try.f67.name == "runtime.NumGoroutine") = false := by kernel_rfl
theorem fnm68 : (Try.f68.name == "runtime.NumGoroutine") = false := by kernel_rfl
theorem fnm69 : (Try.f69.name == "runtime.NumGoroutine") = false := by kernel_rfl
theorem fnm70 : (Try.f70.name == "runtime.NumGoroutine") = false := by kernel_rfl
theorem fnm71 : (Try.f71.name == "runtime.NumGoroutine") = false := by kernel_rfl
theorem fnm72 : (Try.f72.name == "runtime.NumGoroutine") = false := by kernel_rfl
theorem fnm73 : (Try.f73.name == "runtime.NumGoroutine") = false := by kernel_rfl
theorem fnm74 : (Try.f74.name == "runtime.NumGoroutine") = false := by kernel_rfl
theorem fnm75 : (Try.f75.name == "runtime.NumGoroutine") = false := by kernel_rfl
theorem fnm76 : (Try.f76.name == "runtime.NumGoroutine") = false := by kernel_rfl
theorem fnm77 : (Try.f77.name == "runtime.NumGoroutine") = false := by kernel_rfl
theorem fnm78 : (Try.f78.name == "runtime.NumGoroutine") = false := by kernel_rfl
theorem fnm79 : (Try.f79.name == "runtime.NumGoroutine") = false := by kernel_rfl
theorem fnm80 : (Try.f80.name == "runtime.NumGoroutine") = false := by kernel_rfl
theorem fnm81 : (Try.f81.name == "runtime.NumGoroutine") = false := by kernel_rfl
theorem fnm82 : (Try.f82.name == "runtime.NumGoroutine") = false := by kernel_rfl
theorem fnm83 : (Try.f83.name == "runtime.NumGoroutine") = false := by kernel_rfl
theorem fnm84 : (Try.f84.name == "runtime.NumGoroutine") = false := by kernel_rfl
theorem fnm85 : (Try.f85.name == "runtime.NumGoroutine") = false := by kernel_rfl
theorem fnm86 : (Try.f86.name == "runtime.NumGoroutine") = false := by kernel_rfl
theorem fnm87 : (Try.f87.name == "runtime.NumGoroutine") = false := by kernel_rfl
theorem fnm88 : (Try.f88.name == "runtime.NumGoroutine") = false := by kernel_rfl
theorem fnm89 : (Try.f89.name == "runtime.NumGoroutine") = false := by kernel_rfl
theorem fnm90 : (Try.f90.name == "runtime.NumGoroutine") = false := by kernel_rfl
theorem fnm91 : (Try.f91.name == "runtime.NumGoroutine") = false := by kernel_rfl
theorem fnm92 : (Try.f92.name == "runtime.NumGoroutine") = false := by kernel_rfl
theorem fnm93 : (Try.f93.name == "runtime.NumGoroutine") = false := by kernel_rfl
theorem fnm94 : (Try.f94.name == "runtime.NumGoroutine") = false := by kernel_rfl
theorem fnm95 : (Try.f95.name == "runtime.NumGoroutine") = false := by kernel_rfl
theorem fnm96 : (Try.f96.name == "runtime.NumGoroutine") = false := by kernel_rfl
theorem fnm97 : (Try.f97.name == "runtime.NumGoroutine") = false := by kernel_rfl
theorem fnm98 : (Try.f98.name == "runtime.NumGoroutine") = false := by kernel_rfl
theorem fnm99 : (Try.f99.name == "runtime.NumGoroutine") = false := by kernel_rfl
theorem fnm100 : (Try.f100.name == "runtime.NumGoroutine") = false := by kernel_rfl
theorem fnm101 : (Try.f101.name == "runtime.NumGoroutine") = false := by kernel_rfl
theorem fnm102 : (Try.f102.name == "runtime.NumGoroutine") = false := by kernel_rfl
theorem fnm103 : (Try.f103.name == "runtime.NumGoroutine") = false := by kernel_rfl
theorem fnm104 : (Try.f104.name == "runtime.NumGoroutine") = false := by kernel_rfl
theorem fnm105 : (Try.f105.name == "runtime.NumGoroutine") = false := by kernel_rfl
theorem fnm106 : (Try.f106.name == "runtime.NumGoroutine") = false := by kernel_rfl
theorem fnm107 : (Try.f107.name == "runtime.NumGoroutine") = false := by kernel_rfl
theorem fnm108 : (Try.f108.name == "runtime.NumGoroutine") = false := by kernel_rfl
theorem fnm109 : (Try.f109.name == "runtime.NumGoroutine") = false := by kernel_rfl
theorem fnm110 : (Try.f110.name == "runtime.NumGoroutine") = false := by kernel_rfl
theorem fnm111 : (Try.f111.name == "runtime.NumGoroutine") = false := by kernel_rfl
theorem fnm112 : (Try.f112.name == "runtime.NumGoroutine") = false := by kernel_rfl
theorem fnm113 : (Try.f113.name == "runtime.NumGoroutine") = false := by kernel_rfl
theorem fnm114 : (Try.f114.name == "runtime.NumGoroutine") = false := by kernel_rfl
theorem fnm115 : (Try.f115.name == "runtime.NumGoroutine") = false := by kernel_rfl
theorem fnm116 : (Try.f116.name == "runtime.NumGoroutine") = false := by kernel_rfl
theorem fnm117 : (Try.f117.name == "runtime.NumGoroutine") = false := by kernel_rfl
theorem fnm118 : (Try.f118.name == "runtime.NumGoroutine") = false := by kernel_rfl
theorem fnm119 : (Try.f119.name == "runtime.NumGoroutine") = false := by kernel_rfl
theorem fnm120 : (Try.f120.name == "runtime.NumGoroutine") = false := by kernel_rfl
theorem fnm121 : (Try.f121.name == "runtime.NumGoroutine") = false := by kernel_rfl
theorem fnm122 : (Try.f122.name == "runtime.NumGoroutine") = false := by kernel_rfl
theorem fnm123 : (Try.f123.name == "runtime.NumGoroutine") = false := by kernel_rfl
theorem fnm124 : (Try.f124.name == "runtime.NumGoroutine") = false := by kernel_rfl
theorem fnm125 : (Try.f125.name == "runtime.NumGoroutine") = false := by kernel_rfl
theorem fnm126 : (Try.f126.name == "runtime.NumGoroutine") = false := by kernel_rfl
theorem fnm127 : (Try.f127.name == "runtime.NumGoroutine") = false := by kernel_rfl
theorem fnm128 : (Try.f128.name == "runtime.NumGoroutine") = false := by kernel_rfl
theorem fnm129 : (Try.f129.name == "runtime.NumGoroutine") = false := by kernel_rfl
theorem fnm130 : (Try.f130.name == "runtime.NumGoroutine") = false := by kernel_rfl
theorem fnm131 : (Try.f131.name == "runtime.NumGoroutine") = false := by kernel_rfl
theorem fnm132 : (Try.f132.name == "runtime.NumGoroutine") = false := by kernel_rfl
theorem fnm133 : (Try.f133.name == "runtime.NumGoroutine") = false := by kernel_rfl
theorem fnm134 : (Try.f134.name == "runtime.NumGoroutine") = false := by kernel_rfl
theorem fnm135 : (Try.f135.name == "runtime.NumGoroutine") = false := by kernel_rfl
theorem fnm136 : (Try.f136.name == "runtime.NumGoroutine") = false := by kernel_rfl
theorem fnm137 : (Try.f137.name == "runtime.NumGoroutine") = false := by kernel_rfl
theorem fnm138 : (Try.f138.name == "runtime.NumGoroutine") = false := by kernel_rfl
theorem fnm139 : (Try.f139.name == "runtime.NumGoroutine") = false := by kernel_rfl
theorem fnm140 : (Try.f140.name == "runtime.NumGoroutine") = false := by kernel_rfl
theorem fnm141 : (Try.f141.name == "runtime.NumGoroutine") = false := by kernel_rfl
theorem fnm142 : (Try.f142.name == "runtime.NumGoroutine") = false := by kernel_rfl
theorem fnm143 : (Try.f143.name == "runtime.NumGoroutine") = false := by kernel_rfl
theorem fnm144 : (Try.f144.name == "runtime.NumGoroutine") = false := by kernel_rfl
theorem fnm145 : (Try.f145.name == "runtime.NumGoroutine") = false := by kernel_rfl
theorem fnm146 : (Try.f146.name == "runtime.NumGoroutine") = false := by kernel_rfl
theorem fnm147 : (Try.f147.name == "runtime.NumGoroutine") = false := by kernel_rfl
theorem fnm148 : (Try.f148.name == "runtime.NumGoroutine") = false := by kernel_rfl
theorem fnm149 : (Try.f149.name == "runtime.NumGoroutine") = false := by kernel_rfl
theorem fnm150 : (Try.f150.name == "runtime.NumGoroutine") = false := by kernel_rfl
theorem fnm151 : (Try.f151.name == "runtime.NumGoroutine") = false := by kernel_rfl
theorem fnm152 : (Try.f152.name == "runtime.NumGoroutine") = false := by kernel_rfl
theorem fnm153 : (Try.f153.name == "runtime.NumGoroutine") = false := by kernel_rfl
theorem fnm154 : (Try.f154.name == "runtime.NumGoroutine") = false := by kernel_rfl
theorem fnm155 : (Try.f155.name == "runtime.NumGoroutine") = false := by kernel_rfl
theorem fnm156 : (Try.f156.name == "runtime.NumGoroutine") = false := by kernel_rfl
theorem fnm157 : (Try.f157.name == "runtime.NumGoroutine") = false := by kernel_rfl
theorem fnm158 : (Try.f158.name == "runtime.NumGoroutine") = false := by kernel_rfl
theorem fnm159 : (Try.f159.name == "runtime.NumGoroutine") = false := by kernel_rfl
theorem fnm160 : (Try.f160.name == "runtime.NumGoroutine") = false := by kernel_rfl
theorem fnm161 : (Try.f161.name == "runtime.NumGoroutine") = false := by kernel_rfl
theorem fnm162 : (Try.f162.name == "runtime.NumGoroutine") = false := by kernel_rfl
theorem fnm163 : (Try.f163.name == "runtime.NumGoroutine") = false := by kernel_rfl
theorem fnm164 : (Try.f164.name == "runtime.NumGoroutine") = false := by kernel_rfl
theorem fnm166 : (Try.f166.name == "runtime.NumGoroutine") = false := by kernel_rfl
theorem fnm167 : (Try.f167.name == "runtime.NumGoroutine") = false := by kernel_rfl
theorem fnm168 : (Try.f168.name == "runtime.NumGoroutine") = false := by kernel_rfl
theorem fnm169 : (Try.f169.name == "runtime.NumGoroutine") = false := by kernel_rfl
theorem fnm170 : (Try.f170.name == "runtime.NumGoroutine") = false := by kernel_rfl
theorem fnm171 : (Try.f171.name == "runtime.NumGoroutine") = false := by kernel_rfl
theorem fnm172 : (Try.f172.name == "runtime.NumGoroutine") = false := by kernel_rfl
theorem fnm173 : (Try.f173.name == "runtime.NumGoroutine") = false := by kernel_rfl
theorem fnm174 : (Try.f174.name == "runtime.NumGoroutine") = false := by kernel_rfl
theorem fnm175 : (Try.f175.name == "runtime.NumGoroutine") = false := by kernel_rfl
theorem fnm176 : (Try.f176.name == "runtime.NumGoroutine") = false := by kernel_rfl
theorem fnm177 : (Try.f177.name == "runtime.NumGoroutine") = false := by kernel_rfl
theorem fnm178 : (Try.f178.name == "runtime.NumGoroutine") = false := by kernel_rfl
theorem fnm179 : (Try.f179.name == "runtime.NumGoroutine") = false := by kernel_rfl
theorem fnm180 : (Try.f180.name == "runtime.NumGoroutine") = false := by kernel_rfl
theorem fnm181 : (Try.f181.name == "runtime.NumGoroutine") = false := by kernel_rfl
theorem fnm182 : (Try.f182.name == "runtime.NumGoroutine") = false := by kernel_rfl
theorem fnm183 : (Try.f183.name == "runtime.NumGoroutine") = false := by kernel_rfl
theorem fnm184 : (Try.f184.name == "runtime.NumGoroutine") = false := by kernel_rfl
theorem fnm185 : (Try.f185.name == "runtime.NumGoroutine") = false := by kernel_rfl
theorem fnm186 : (Try.f186.name == "runtime.NumGoroutine") = false := by kernel_rfl
theorem fnm187 : (Try.f187.name == "runtime.NumGoroutine") = false := by kernel_rfl
theorem fnm188 : (Try.f188.name == "runtime.NumGoroutine") = false := by kernel_rfl
theorem fnm189 : (Try.f189.name == "runtime.NumGoroutine") = false := by kernel_rfl
theorem fnm190 : (Try.f190.name == "runtime.NumGoroutine") = false := by kernel_rfl
theorem fnm191 : (Try.f191.name == "runtime.NumGoroutine") = false := by kernel_rfl
theorem fnm192 : (Try.f192.name == "runtime.NumGoroutine") = false := by kernel_rfl
theorem fnm193 : (Try.f193.name == "runtime.NumGoroutine") = false := by kernel_rfl
theorem fnm194 : (Try.f194.name == "runtime.NumGoroutine") = false := by kernel_rfl
theorem fnm195 : (Try.f195.name == "runtime.NumGoroutine") = false := by kernel_rfl
theorem fnm196 : (Try.f196.name == "runtime.NumGoroutine") = false := by kernel_rfl
theorem fnm197 : (Try.f197.name == "runtime.NumGoroutine") = false := by kernel_rfl
theorem fnm198 : (Try.f198.name == "runtime.NumGoroutine") = false := by kernel_rfl
theorem fnm199 : (Try.f199.name == "runtime.NumGoroutine") = false := by kernel_rfl
theorem fnm200 : (Try.f200.name == "runtime.NumGoroutine") = false := by kernel_rfl
theorem fnm201 : (Try.f201.name == "runtime.NumGoroutine") = false := by kernel_rfl
theorem fnm202 : (Try.f202.name == "runtime.NumGoroutine") = false := by kernel_rfl
theorem fnm203 : (Try.f203.name == "runtime.NumGoroutine") = false := by kernel_rfl
theorem fnm204 : (Try.f204.name == "runtime.NumGoroutine") = false := by kernel_rfl
theorem fnm205 : (Try.f205.name == "runtime.NumGoroutine") = false := by kernel_rfl
theorem fnm206 : (Try.f206.name == "runtime.NumGoroutine") = false := by kernel_rfl
theorem fnm207 : (Try.f207.name == "runtime.NumGoroutine") = false := by kernel_rfl
theorem fnm208 : (Try.f208.name == "runtime.NumGoroutine") = false := by kernel_rfl
theorem fnm209 : (Try.f209.name == "runtime.NumGoroutine") = false := by kernel_rfl
theorem fnm210 : (Try.f210.name == "runtime.NumGoroutine") = false := by kernel_rfl
theorem fnm211 : (Try.f211.name == "runtime.NumGoroutine") = false := by kernel_rfl
theorem fnm212 : (Try.f212.name == "runtime.NumGoroutine") = false := by kernel_rfl
theorem fnm213 : (Try.f213.name == "runtime.NumGoroutine") = false := by kernel_rfl
theorem fnm214 : (Try.f214.name == "runtime.NumGoroutine") = false := by kernel_rfl
theorem fnm215 : (Try.f215.name == "runtime.NumGoroutine") = false := by kernel_rfl
theorem fnm216 : (Try.f216.name == "runtime.NumGoroutine") = false := by kernel_rfl
theorem fnm217 : (Try.f217.name == "runtime.NumGoroutine") = false := by kernel_rfl
theorem fnm218 : (Try.f218.name == "runtime.NumGoroutine") = false := by kernel_rfl
theorem und_all : AllT (fun t d => Try.prog.underlying t = some d) 0 undL := ⟨Try.underlying3, ⟨Try.underlying4, ⟨Try.underlying5, ⟨Try.underlying9, ⟨Try.underlying23, ⟨Try.underlying26, ⟨Try.underlying33, ⟨Try.underlying40, ⟨Try.underlying45, ⟨Try.underlying47, ⟨Try.underlying48, ⟨Try.underlying50, ⟨Try.underlying55, ⟨Try.underlying57, ⟨Try.underlying59, ⟨Try.underlying61, ⟨Try.underlying70, ⟨Try.underlying74, ⟨Try.underlying80, ⟨Try.underlying83, ⟨Try.underlying86, ⟨Try.underlying87, ⟨Try.underlying89, ⟨Try.underlying91, ⟨Try.underlying93, ⟨Try.underlying105, ⟨Try.underlying113, ⟨Try.underlying115, ⟨Try.underlying121, ⟨Try.underlying123, ⟨Try.underlying129, ⟨Try.underlying151, ⟨Try.underlying156, ⟨Try.underlying157, ⟨Try.underlying169, ⟨Try.underlying170, ⟨Try.underlying171, ⟨Try.underlying173, ⟨Try.underlying177, ⟨Try.underlying179, ⟨Try.underlying187, ⟨Try.underlying189, ⟨Try.underlying192, ⟨Try.underlying194, ⟨Try.underlying197, ⟨Try.underlying201, ⟨Try.underlying213, ⟨Try.underlying215, ⟨Try.underlying228, ⟨Try.underlying231, ⟨Try.underlying249, ⟨Try.underlying251, trivial⟩⟩⟩⟩⟩⟩⟩⟩⟩⟩⟩⟩⟩⟩⟩⟩⟩⟩⟩⟩⟩⟩⟩⟩⟩⟩⟩⟩⟩⟩⟩⟩⟩⟩⟩⟩⟩⟩⟩⟩⟩⟩⟩⟩⟩⟩⟩⟩⟩⟩⟩⟩
theorem info_all : AllT InfoQ 0 infoL := ⟨⟨Try.t3, inf3, rfl, rfl, rfl, rfl, rfl⟩, ⟨⟨Try.t4, inf4, rfl, rfl, rfl, rfl, rfl⟩, ⟨⟨Try.t5, inf5, rfl, rfl, rfl, rfl, rfl⟩, ⟨⟨Try.t9, inf9, rfl, rfl, rfl, rfl, rfl⟩, ⟨⟨Try.t23, inf23, rfl, rfl, rfl, rfl, rfl⟩, ⟨⟨Try.t26, inf26, rfl, rfl, rfl, rfl, rfl⟩, ⟨⟨Try.t33, inf33, rfl, rfl, rfl, rfl, rfl⟩, ⟨⟨Try.t40, inf40, rfl, rfl, rfl, rfl, rfl⟩, ⟨⟨Try.t45, inf45, rfl, rfl, rfl, rfl, rfl⟩, ⟨⟨Try.t47, inf47, rfl, rfl, rfl, rfl, rfl⟩, ⟨⟨Try.t48, inf48, rfl, rfl, rfl, rfl, rfl⟩, ⟨⟨Try.t50, inf50, rfl, rfl, rfl, rfl, rfl⟩, ⟨⟨Try.t55, inf55, rfl, rfl, rfl, rfl, rfl⟩, ⟨⟨Try.t57, inf57, rfl, rfl, rfl, rfl, rfl⟩, ⟨⟨Try.t59, inf59, rfl, rfl, rfl, rfl, rfl⟩, ⟨⟨Try.t61, inf61, rfl, rfl, rfl, rfl, rfl⟩, ⟨⟨Try.t70, inf70, rfl, rfl, rfl, rfl, rfl⟩, ⟨⟨Try.t74, inf74, rfl, rfl, rfl, rfl, rfl⟩, ⟨⟨Try.t80, inf80, rfl, rfl, rfl, rfl, rfl⟩, ⟨⟨Try.t83, inf83, rfl, rfl, rfl, rfl, rfl⟩, ⟨⟨Try.t86, inf86, rfl, rfl, rfl, rfl, rfl⟩, ⟨⟨Try.t87, inf87, rfl, rfl, rfl, rfl, rfl⟩, ⟨⟨Try.t89, inf89, rfl, rfl, rfl, rfl, rfl⟩, ⟨⟨Try.t91, inf91, rfl, rfl, rfl, rfl, rfl⟩, ⟨⟨Try.t93, inf93, rfl, rfl, rfl, rfl, rfl⟩, ⟨⟨Try.t105, inf105, rfl, rfl, rfl, rfl, rfl⟩, ⟨⟨Try.t113, inf113, rfl, rfl, rfl, rfl, rfl⟩, ⟨⟨Try.t115, inf115, rfl, rfl, rfl, rfl, rfl⟩, ⟨⟨Try.t121, inf121, rfl, rfl, rfl, rfl, rfl⟩, ⟨⟨Try.t123, inf123, rfl, rfl, rfl, rfl, rfl⟩, ⟨⟨Try.t129, inf129, rfl, rfl, rfl, rfl, rfl⟩, ⟨⟨Try.t151, inf151, rfl, rfl, rfl, rfl, rfl⟩, ⟨⟨Try.t156, inf156, rfl, rfl, rfl, rfl, rfl⟩, ⟨⟨Try.t157, inf157, rfl, rfl, rfl, rfl, rfl⟩, ⟨⟨Try.t169, inf169, rfl, rfl, rfl, rfl, rfl⟩, ⟨⟨Try.t170, inf170, rfl, rfl, rfl, rfl, rfl⟩, ⟨⟨Try.t171, inf171, rfl, rfl, rfl, rfl, rfl⟩, ⟨⟨Try.t173, inf173, rfl, rfl, rfl, rfl, rfl⟩, ⟨⟨Try.t177, inf177, rfl, rfl, rfl, rfl, rfl⟩, ⟨⟨Try.t179, inf179, rfl, rfl, rfl, rfl, rfl⟩, ⟨⟨Try.t187, inf187, rfl, rfl, rfl, rfl, rfl⟩, ⟨⟨Try.t189, inf189, rfl, rfl, rfl, rfl, rfl⟩, ⟨⟨Try.t192, inf192, rfl, rfl, rfl, rfl, rfl⟩, ⟨⟨Try.t194, inf194, rfl, rfl, rfl, rfl, rfl⟩, ⟨⟨Try.t197, inf197, rfl, rfl, rfl, rfl, rfl⟩, ⟨⟨Try.t201, inf201, rfl, rfl, rfl, rfl, rfl⟩, ⟨⟨Try.t213, inf213, rfl, rfl, rfl, rfl, rfl⟩, ⟨⟨Try.t215, inf215, rfl, rfl, rfl, rfl, rfl⟩, ⟨⟨Try.t228, inf228, rfl, rfl, rfl, rfl, rfl⟩, ⟨⟨Try.t231, inf231, rfl, rfl, rfl, rfl, rfl⟩, ⟨⟨Try.t249, inf249, rfl, rfl, rfl, rfl, rfl⟩, ⟨⟨Try.t251, inf251, rfl, rfl, rfl, rfl, rfl⟩, trivial⟩⟩⟩⟩⟩⟩⟩⟩⟩⟩⟩⟩⟩⟩⟩⟩⟩⟩⟩⟩⟩⟩⟩⟩⟩⟩⟩⟩⟩⟩⟩⟩⟩⟩⟩⟩⟩⟩⟩⟩⟩⟩⟩⟩⟩⟩⟩⟩⟩⟩⟩⟩
theorem ty_all : AllT TyQ 0 tyL := ⟨⟨Try.t3, inf3, rfl, rfl⟩, ⟨⟨Try.t4, inf4, rfl, rfl⟩, ⟨⟨Try.t5, inf5, rfl, rfl⟩, ⟨⟨Try.t9, inf9, rfl, rfl⟩, ⟨⟨Try.t23, inf23, rfl, rfl⟩, ⟨⟨Try.t26, inf26, rfl, rfl⟩, ⟨⟨Try.t33, inf33, rfl, rfl⟩, ⟨⟨Try.t40, inf40, rfl, rfl⟩, ⟨⟨Try.t45, inf45, rfl, rfl⟩, ⟨⟨Try.t47, inf47, rfl, rfl⟩, ⟨⟨Try.t48, inf48, rfl, rfl⟩, ⟨⟨Try.t50, inf50, rfl, rfl⟩, ⟨⟨Try.t55, inf55, rfl, rfl⟩, ⟨⟨Try.t57, inf57, rfl, rfl⟩, ⟨⟨Try.t59, inf59, rfl, rfl⟩, ⟨⟨Try.t61, inf61, rfl, rfl⟩, ⟨⟨Try.t70, inf70, rfl, rfl⟩, ⟨⟨Try.t74, inf74, rfl, rfl⟩, ⟨⟨Try.t80, inf80, rfl, rfl⟩, ⟨⟨Try.t83, inf83, rfl, rfl⟩, ⟨⟨Try.t86, inf86, rfl, rfl⟩, ⟨⟨Try.t87, inf87, rfl, rfl⟩, ⟨⟨Try.t89, inf89, rfl, rfl⟩, ⟨⟨Try.t91, inf91, rfl, rfl⟩, ⟨⟨Try.t93, inf93, rfl, rfl⟩, ⟨⟨Try.t105, inf105, rfl, rfl⟩, ⟨⟨Try.t115, inf115, rfl, rfl⟩, ⟨⟨Try.t121, inf121, rfl, rfl⟩, ⟨⟨Try.t123, inf123, rfl, rfl⟩, ⟨⟨Try.t151, inf151, rfl, rfl⟩, ⟨⟨Try.t156, inf156, rfl, rfl⟩, ⟨⟨Try.t157, inf157, rfl, rfl⟩, ⟨⟨Try.t169, inf169, rfl, rfl⟩, ⟨⟨Try.t170, inf170, rfl, rfl⟩, ⟨⟨Try.t171, inf171, rfl, rfl⟩, ⟨⟨Try.t173, inf173, rfl, rfl⟩, ⟨⟨Try.t177, inf177, rfl, rfl⟩, ⟨⟨Try.t179, inf179, rfl, rfl⟩, ⟨⟨Try.t187, inf187, rfl, rfl⟩, ⟨⟨Try.t189, inf189, rfl, rfl⟩, ⟨⟨Try.t194, inf194, rfl, rfl⟩, ⟨⟨Try.t197, inf197, rfl, rfl⟩, ⟨⟨Try.t213, inf213, rfl, rfl⟩, ⟨⟨Try.t215, inf215, rfl, rfl⟩, ⟨⟨Try.t228, inf228, rfl, rfl⟩, ⟨⟨Try.t249, inf249, rfl, rfl⟩, ⟨⟨Try.t251, inf251, rfl, rfl⟩, trivial⟩⟩⟩⟩⟩⟩⟩⟩⟩⟩⟩⟩⟩⟩⟩⟩⟩⟩⟩⟩⟩⟩⟩⟩⟩⟩⟩⟩⟩⟩⟩⟩⟩⟩⟩⟩⟩⟩⟩⟩⟩⟩⟩⟩⟩⟩⟩
theorem fn_all : AllT FnQ 0 fnL := ⟨⟨Try.func3, fnm3⟩, ⟨⟨Try.func4, fnm4⟩, ⟨⟨Try.func5, fnm5⟩, ⟨⟨Try.func6, fnm6⟩, ⟨⟨Try.func7, fnm7⟩, ⟨⟨Try.func8, fnm8⟩, ⟨⟨Try.func9, fnm9⟩, ⟨⟨Try.func10, fnm10⟩, ⟨⟨Try.func11, fnm11⟩, ⟨⟨Try.func12, fnm12⟩, ⟨⟨Try.func13, fnm13⟩, ⟨⟨Try.func14, fnm14⟩, ⟨⟨Try.func15, fnm15⟩, ⟨⟨Try.func16, fnm16⟩, ⟨⟨Try.func17, fnm17⟩, ⟨⟨Try.func18, fnm18⟩, ⟨⟨Try.func19, fnm19⟩, ⟨⟨Try.func20, fnm20⟩, ⟨⟨Try.func21, fnm21⟩, ⟨⟨Try.func22, fnm22⟩, ⟨⟨Try.func23, fnm23⟩, ⟨⟨Try.func24, fnm24⟩, ⟨⟨Try.func25, fnm25⟩, ⟨⟨Try.func26, fnm26⟩, ⟨⟨Try.func27, fnm27⟩, ⟨⟨Try.func28, fnm28⟩, ⟨⟨Try.func29, fnm29⟩, ⟨⟨Try.func30, fnm30⟩, ⟨⟨Try.func31, fnm31⟩, ⟨⟨Try.func32, fnm32⟩, ⟨⟨Try.func33, fnm33⟩, ⟨⟨Try.func34, fnm34⟩, ⟨⟨Try.func35, fnm35⟩, ⟨⟨Try.func36, fnm36⟩, ⟨⟨Try.func37, fnm37⟩, ⟨⟨Try.func38, fnm38⟩, ⟨⟨Try.func39, fnm39⟩, ⟨⟨Try.func40, fnm40⟩, ⟨⟨Try.func41, fnm41⟩, ⟨⟨Try.func42, fnm42⟩, ⟨⟨Try.func43, fnm43⟩, ⟨⟨Try.func44, fnm44⟩, ⟨⟨Try.func45, fnm45⟩, ⟨⟨Try.func46, fnm46⟩, ⟨⟨Try.func47, fnm47⟩, ⟨⟨Try.func48, fnm48⟩, ⟨⟨Try.func49, fnm49⟩, ⟨⟨Try.func50, fnm50⟩, ⟨⟨Try.func51, fnm51⟩, ⟨⟨Try.func52, fnm52⟩, ⟨⟨Try.func53, fnm53⟩, ⟨⟨Try.func54, fnm54⟩, ⟨⟨Try.func55, fnm55⟩, ⟨⟨Try.func56, fnm56⟩, ⟨⟨Try.func57, fnm57⟩, ⟨⟨Try.func58, fnm58⟩, ⟨⟨Try.func59, fnm59⟩, ⟨⟨Try.func60, fnm60⟩, ⟨⟨Try.func61, fnm61⟩, ⟨⟨Try.func62, fnm62⟩, ⟨⟨Try.func63, fnm63⟩, ⟨⟨Try.func64, fnm64⟩, ⟨⟨Try.func65, fnm65⟩, ⟨⟨Try.func66, fnm66⟩, ⟨⟨Try.func67, fnm67⟩, ⟨⟨Try.func68, fnm68⟩, ⟨⟨Try.func69, fnm69⟩, ⟨⟨Try.func70, fnm70⟩, ⟨⟨Try.func71, fnm71⟩, ⟨⟨Try.func72, fnm72⟩, ⟨⟨Try.func73, fnm73⟩, ⟨⟨Try.func74, fnm74⟩, ⟨⟨Try.func75, fnm75⟩, ⟨⟨Try.func76, fnm76⟩, ⟨⟨Try.func77, fnm77⟩, ⟨⟨Try.func78, fnm78⟩, ⟨⟨Try.func79, fnm79⟩, ⟨⟨Try.func80, fnm80⟩, ⟨⟨Try.func81, fnm81⟩, ⟨⟨Try.func82, fnm82⟩, ⟨⟨Try.func83, fnm83⟩, ⟨⟨Try.func84, fnm84⟩, ⟨⟨Try.func85, fnm85⟩, ⟨⟨Try.func86, fnm86⟩, ⟨⟨Try.func87, fnm87⟩, ⟨⟨Try.func88, fnm88⟩, ⟨⟨Try.func89, fnm89⟩, ⟨⟨Try.func90, fnm90⟩, ⟨⟨Try.func91, fnm91⟩, ⟨⟨Try.func92, fnm92⟩, ⟨⟨Try.func93, fnm93⟩, ⟨⟨Try.func94, fnm94⟩, ⟨⟨Try.func95, fnm95⟩, ⟨⟨Try.func96, fnm96⟩, ⟨⟨Try.func97, fnm97⟩, ⟨⟨Try.func98, fnm98⟩, ⟨⟨Try.func99, fnm99⟩, ⟨⟨Try.func100, fnm100⟩, ⟨⟨Try.func101, fnm101⟩, ⟨⟨Try.func102, fnm102⟩, ⟨⟨Try.func103, fnm103⟩, ⟨⟨Try.func104, fnm104⟩, ⟨⟨Try.func105, fnm105⟩, ⟨⟨Try.func106, fnm106⟩, ⟨⟨Try.func107, fnm107⟩, ⟨⟨Try.func108, fnm108⟩, ⟨⟨Try.func109, fnm109⟩, ⟨⟨Try.func110, fnm110⟩, ⟨⟨Try.func111, fnm111⟩, ⟨⟨Try.func112, fnm112⟩, ⟨⟨Try.func113, fnm113⟩, ⟨⟨Try.func114, fnm114⟩, ⟨⟨Try.func115, fnm115⟩, ⟨⟨Try.func116, fnm116⟩, ⟨⟨Try.func117, fnm117⟩, ⟨⟨Try.func118, fnm118⟩, ⟨⟨Try.func119, fnm119⟩, ⟨⟨Try.func120, fnm120⟩, ⟨⟨Try.func121, fnm121⟩, ⟨⟨Try.func122, fnm122⟩, ⟨⟨Try.func123, fnm123⟩, ⟨⟨Try.func124, fnm124⟩, ⟨⟨Try.func125, fnm125⟩, ⟨⟨Try.func126, fnm126⟩, ⟨⟨Try.func127, fnm127⟩, ⟨⟨Try.func128, fnm128⟩, ⟨⟨Try.func129, fnm129⟩, ⟨⟨Try.func130, fnm130⟩, ⟨⟨Try.func131, fnm131⟩, ⟨⟨Try.func132, fnm132⟩, ⟨⟨Try.func133, fnm133⟩, ⟨⟨Try.func134, fnm134⟩, ⟨⟨Try.func135, fnm135⟩, ⟨⟨Try.func136, fnm136⟩, ⟨⟨Try.func137, fnm137⟩, ⟨⟨Try.func138, fnm138⟩, ⟨⟨Try.func139, fnm139⟩, ⟨⟨Try.func140, fnm140⟩, ⟨⟨Try.func141, fnm141⟩, ⟨⟨Try.func142, fnm142⟩, ⟨⟨Try.func143, fnm143⟩, ⟨⟨Try.func144, fnm144⟩, ⟨⟨Try.func145, fnm145⟩, ⟨⟨Try.func146, fnm146⟩, ⟨⟨Try.func147, fnm147⟩, ⟨⟨Try.func148, fnm148⟩, ⟨⟨Try.func149, fnm149⟩, ⟨⟨Try.func150, fnm150⟩, ⟨⟨Try.func151, fnm151⟩, ⟨⟨Try.func152, fnm152⟩, ⟨⟨Try.func153, fnm153⟩, ⟨⟨Try.func154, fnm154⟩, ⟨⟨Try.func155, fnm155⟩, ⟨⟨Try.func156, fnm156⟩, ⟨⟨Try.func157, fnm157⟩, ⟨⟨Try.func158, fnm158⟩, ⟨⟨Try.func159, fnm159⟩, ⟨⟨Try.func160, fnm160⟩, ⟨⟨Try.func161, fnm161⟩, ⟨⟨Try.func162, fnm162⟩, ⟨⟨Try.func163, fnm163⟩, ⟨⟨Try.func164, fnm164⟩, ⟨⟨Try.func166, fnm166⟩, ⟨⟨Try.func167, fnm167⟩, ⟨⟨Try.func168, fnm168⟩, ⟨⟨Try.func169, fnm169⟩, ⟨⟨Try.func170, fnm170⟩, ⟨⟨Try.func171, fnm171⟩, ⟨⟨Try.func172, fnm172⟩, ⟨⟨Try.func173, fnm173⟩, ⟨⟨Try.func174, fnm174⟩, ⟨⟨Try.func175, fnm175⟩, ⟨⟨Try.func176, fnm176⟩, ⟨⟨Try.func177, fnm177⟩, ⟨⟨Try.func178, fnm178⟩, ⟨⟨Try.func179, fnm179⟩, ⟨⟨Try.func180, fnm180⟩, ⟨⟨Try.func181, fnm181⟩, ⟨⟨Try.func182, fnm182⟩, ⟨⟨Try.func183, fnm183⟩, ⟨⟨Try.func184, fnm184⟩, ⟨⟨Try.func185, fnm185⟩, ⟨⟨Try.func186, fnm186⟩, ⟨⟨Try.func187, fnm187⟩, ⟨⟨Try.func188, fnm188⟩, ⟨⟨Try.func189, fnm189⟩, ⟨⟨Try.func190, fnm190⟩, ⟨⟨Try.func191, fnm191⟩, ⟨⟨Try.func192, fnm192⟩, ⟨⟨Try.func193, fnm193⟩, ⟨⟨Try.func194, fnm194⟩, ⟨⟨Try.func195, fnm195⟩, ⟨⟨Try.func196, fnm196⟩, ⟨⟨Try.func197, fnm197⟩, ⟨⟨Try.func198, fnm198⟩, ⟨⟨Try.func199, fnm199⟩, ⟨⟨Try.func200, fnm200⟩, ⟨⟨Try.func201, fnm201⟩, ⟨⟨Try.func202, fnm202⟩, ⟨⟨Try.func203, fnm203⟩, ⟨⟨Try.func204, fnm204⟩, ⟨⟨Try.func205, fnm205⟩, ⟨⟨Try.func206, fnm206⟩, ⟨⟨Try.func207, fnm207⟩, ⟨⟨Try.func208, fnm208⟩, ⟨⟨Try.func209, fnm209⟩, ⟨⟨Try.func210, fnm210⟩, ⟨⟨Try.func211, fnm211⟩, ⟨⟨Try.func212, fnm212⟩, ⟨⟨Try.func213, fnm213⟩, ⟨⟨Try.func214, fnm214⟩, ⟨⟨Try.func215, fnm215⟩, ⟨⟨Try.func216, fnm216⟩, ⟨⟨Try.func217, fnm217⟩, ⟨⟨Try.func218, fnm218⟩, trivial⟩⟩⟩⟩⟩⟩⟩⟩⟩⟩⟩⟩⟩⟩⟩⟩⟩⟩⟩⟩⟩⟩⟩⟩⟩⟩⟩⟩⟩⟩⟩⟩⟩⟩⟩⟩⟩⟩⟩⟩⟩⟩⟩⟩⟩⟩⟩⟩⟩⟩⟩⟩⟩⟩⟩⟩⟩⟩⟩⟩⟩⟩⟩⟩⟩⟩⟩⟩⟩⟩⟩⟩⟩⟩⟩⟩⟩⟩⟩⟩⟩⟩⟩⟩⟩⟩⟩⟩⟩⟩⟩⟩⟩⟩⟩⟩⟩⟩⟩⟩⟩⟩⟩⟩⟩⟩⟩⟩⟩⟩⟩⟩⟩⟩⟩⟩⟩⟩⟩⟩⟩⟩⟩⟩⟩⟩⟩⟩⟩⟩⟩⟩⟩⟩⟩⟩⟩⟩⟩⟩⟩⟩⟩⟩⟩⟩⟩⟩⟩⟩⟩⟩⟩⟩⟩⟩⟩⟩⟩⟩⟩⟩⟩⟩⟩⟩⟩⟩⟩⟩⟩⟩⟩⟩⟩⟩⟩⟩⟩⟩⟩⟩⟩⟩⟩⟩⟩⟩⟩⟩⟩⟩⟩⟩⟩⟩⟩⟩⟩⟩⟩⟩⟩⟩⟩⟩⟩⟩⟩⟩⟩⟩⟩⟩⟩
theorem mixed : Try.prog.follows .mixedOrders = true := by kernel_rfl
def EqQ (t : Nat) (ts : List Ty) : Prop := Try.prog.underlying t = some (.struct (Try.prog.fieldsOf t)) ∧ Try.prog.stoodInHeld t = false ∧ Try.prog.eqGuardType Try.prog.depth t = false ∧ eqFsB Try.prog 0 (Try.prog.fieldsOf t).toList ts = true
theorem eqs_all : AllT EqQ 0 eqL := ⟨⟨by kernel_rfl, by kernel_rfl, by kernel_rfl, by kernel_rfl⟩, ⟨⟨by kernel_rfl, by kernel_rfl, by kernel_rfl, by kernel_rfl⟩, trivial⟩⟩
theorem ext_cons {a : Nat} {l : List Nat} {n : Nat} (h : lhas (a :: l) n = true) : n = a ∨ lhas l n = true := by
  have h' : (bif Nat.beq a n then true else lhas l n) = true := h
  cases hb : Nat.beq a n with
  | true => exact .inl (Nat.eq_of_beq_eq_true hb).symm
  | false => rw [hb, cond_false] at h'; exact .inr h'
theorem ext_all : ∀ f, lhas extL f = true → ∃ fn c, Try.prog.funcs[f]? = some fn ∧ (fn.name == "runtime.NumGoroutine") = false ∧ fn.body = some c := by
  intro f h
  rcases ext_cons h with rfl | h
  · exact ⟨Try.f165, _, by kernel_rfl, by kernel_rfl, rfl⟩
  cases h
theorem ok : TabOK Γ Try.prog where
  und t d h := by have := all_at _ _ und_all t d h; rw [Nat.zero_add] at this; exact this
  info t z n b h := by
    obtain ⟨i, h1, h2, h3, h4, h5, _⟩ := all_at _ _ info_all t (z, n, b) h
    rw [Nat.zero_add] at h1
    exact ⟨i, h1, h2, h3, h4, h5⟩
  zero1 t z n b h := by
    obtain ⟨i, _, _, _, _, _, h6⟩ := all_at _ _ info_all t (z, n, b) h
    exact List.all_eq_true.1 h6
  fn f fn h := by
    obtain ⟨h1, h2⟩ := all_at _ _ fn_all f fn h
    rw [Nat.zero_add] at h1
    exact ⟨h1, h2⟩
  ty t τ h := by
    obtain ⟨i, h1, h2, h3⟩ := all_at _ _ ty_all t τ h
    rw [Nat.zero_add] at h1
    exact ⟨i, h1, h2, Nat.le_of_ble_eq_true h3⟩
  mixed := mixed
  eqs t ts h := by have := all_at _ _ eqs_all t ts h; rw [Nat.zero_add] at this; exact this
  ext := ext_all
end Go.Proofs.GR.T

