/-
  No statement is proved here: the tables of the program, and that they tell it.
  No condition.
-/
import Derived.Test.YtfihkpknhkbciaaGreatDoorProg
import Derived.Test.YtfihkpknhkbciaaGreatDoorQRuleOKd
import Derived.KernelRfl
namespace Go.Proofs.GR.T
open Go.Proofs
noncomputable def undL : List (Option TypeDesc) := [none, none, none, some (.int .i64), some (.bool), some (.int .u8), none, none, none, some (.string), none, none, none, none, none, none, none, none, none, none, none, none, none, none, some (.slice 98), none, none, none, none, some (.slice 3), none, none, none, none, some (.slice 109), none, none, none, none, none, none, none, none, none, none, none, some (.struct #[⟨ "Kind", 3, 0, false, "", "", 0⟩, ⟨ "N", 3, 1, false, "", "", 8⟩, ⟨ "T", 9, 2, false, "", "", 16⟩]), some (.slice 49), none, some (.struct #[⟨ "Kind", 3, 0, false, "", "", 0⟩, ⟨ "N", 3, 1, false, "", "", 8⟩, ⟨ "Name", 9, 2, false, "", "", 16⟩, ⟨ "Of", 9, 3, false, "", "", 32⟩, ⟨ "Val", 46, 4, false, "", "", 48⟩, ⟨ "Kids", 47, 7, false, "", "", 80⟩]), some (.slice 180), none, some (.struct #[⟨ "Name", 9, 0, false, "", "", 0⟩, ⟨ "Table", 9, 1, false, "", "", 16⟩, ⟨ "Event", 3, 2, false, "", "", 32⟩, ⟨ "Priority", 3, 3, false, "", "", 40⟩, ⟨ "When", 49, 4, false, "", "", 48⟩, ⟨ "Sets", 50, 12, false, "", "", 152⟩, ⟨ "Into", 9, 13, false, "", "", 176⟩, ⟨ "Exprs", 47, 14, false, "", "", 192⟩]), none, none, some (.struct #[⟨ "Kind", 3, 0, false, "", "", 0⟩, ⟨ "N", 3, 1, false, "", "", 8⟩, ⟨ "T", 9, 2, false, "", "", 16⟩]), some (.slice 58), none, some (.struct #[⟨ "Kind", 3, 0, false, "", "", 0⟩, ⟨ "N", 3, 1, false, "", "", 8⟩, ⟨ "Name", 9, 2, false, "", "", 16⟩, ⟨ "Of", 9, 3, false, "", "", 32⟩, ⟨ "Val", 55, 4, false, "", "", 48⟩, ⟨ "Kids", 56, 7, false, "", "", 80⟩]), some (.slice 131), none, some (.struct #[⟨ "Name", 9, 0, false, "", "", 0⟩, ⟨ "Table", 9, 1, false, "", "", 16⟩, ⟨ "Event", 3, 2, false, "", "", 32⟩, ⟨ "Priority", 3, 3, false, "", "", 40⟩, ⟨ "When", 58, 4, false, "", "", 48⟩, ⟨ "Sets", 59, 12, false, "", "", 152⟩, ⟨ "Into", 9, 13, false, "", "", 176⟩, ⟨ "Exprs", 56, 14, false, "", "", 192⟩]), none, none, none, none, none, none, none, none, none, some (.slice 9), none, none, none, none, none, none, none, none, none, none, none, none, none, none, none, none, none, none, none, none, none, none, none, some (.slice 218), some (.slice 220), none, some (.struct #[⟨ "Name", 9, 0, false, "", "", 0⟩, ⟨ "Columns", 95, 1, false, "", "", 16⟩, ⟨ "Key", 3, 2, false, "", "", 40⟩, ⟨ "Indexes", 96, 3, false, "", "", 48⟩]), none, none, none, none, none, none, none, some (.slice 133), some (.slice 166), none, some (.struct #[⟨ "Name", 9, 0, false, "", "", 0⟩, ⟨ "Columns", 106, 1, false, "", "", 16⟩, ⟨ "Key", 3, 2, false, "", "", 40⟩, ⟨ "Indexes", 107, 3, false, "", "", 48⟩]), none, none, none, none, none, none, none, none, none, none, none, none, none, none, none, none, none, none, none, none, none, some (.struct #[⟨ "Column", 3, 0, false, "", "", 0⟩, ⟨ "Expr", 58, 1, false, "", "", 8⟩]), none, some (.struct #[⟨ "Name", 9, 0, false, "", "", 0⟩, ⟨ "Type", 3, 1, false, "", "", 16⟩, ⟨ "Null", 4, 2, false, "", "", 24⟩]), none, none, none, none, none, none, none, none, none, none, none, none, none, none, none, some (.slice 244), none, none, none, none, none, none, none, none, none, none, none, none, none, none, none, none, some (.struct #[⟨ "Name", 9, 0, false, "", "", 0⟩, ⟨ "Columns", 29, 1, false, "", "", 16⟩]), none, none, none, none, none, none, none, none, none, none, none, none, none, some (.struct #[⟨ "Column", 3, 0, false, "", "", 0⟩, ⟨ "Expr", 49, 1, false, "", "", 8⟩]), none, none, none, none, none, none, none, none, none, none, none, none, none, none, none, none, none, none, none, none, none, none, none, none, none, none, none, none, none, none, none, none, none, none, none, none, none, some (.struct #[⟨ "Name", 9, 0, false, "", "", 0⟩, ⟨ "Type", 3, 1, false, "", "", 16⟩, ⟨ "Null", 4, 2, false, "", "", 24⟩]), none, some (.struct #[⟨ "Name", 9, 0, false, "", "", 0⟩, ⟨ "Columns", 29, 1, false, "", "", 16⟩]), none, none, none, none, none, none, none, none, none, none, none, none, none, none, none, none, none, none, some (.pointer 241), none, some (.struct #[⟨ "scope", 149, 0, false, "", "loop.example/g00208/spec", 0⟩, ⟨ "group", 29, 1, false, "", "loop.example/g00208/spec", 24⟩, ⟨ "only", 4, 2, false, "", "loop.example/g00208/spec", 48⟩, ⟨ "next", 3, 3, false, "", "loop.example/g00208/spec", 56⟩, ⟨ "code", 3, 4, false, "", "loop.example/g00208/spec", 64⟩, ⟨ "place", 3, 5, false, "", "loop.example/g00208/spec", 72⟩]), none, none, some (.struct #[⟨ "Of", 9, 0, false, "", "", 0⟩, ⟨ "Name", 9, 1, false, "", "", 16⟩, ⟨ "Type", 3, 2, false, "", "", 32⟩]), none, none, none, none, none, none, none, none, none, none, none, none, none, none, none, none, none, none, none, none, none, none, none, none, some (.struct #[⟨ "code", 3, 0, false, "", "loop.example/g00208/impl", 0⟩, ⟨ "place", 3, 1, false, "", "loop.example/g00208/impl", 8⟩]), none, none, none, none, none, none, none, none, none, none, some (.int .u64), none, none, none, none, none, none, none, none, none, none, none, none, none, none, none, none, some (.pointer 299), none, some (.struct #[⟨ "scope", 149, 0, false, "", "loop.example/g00208/impl", 0⟩, ⟨ "grouped", 4, 1, false, "", "loop.example/g00208/impl", 24⟩, ⟨ "by", 29, 2, false, "", "loop.example/g00208/impl", 32⟩]), none, none, none, none, none, none, none, none, none, none, none, none, none, none, none, none, none, none, none, none, none, none, none, none, none, none, none, none, none, none, none, none, none, none, none, none]
noncomputable def infoL : List (Option (Value × Nat × Nat)) := [none, none, none, some ((.int .i64 0, 1, 8)), some ((.bool false, 1, 1)), some ((.int .u8 0, 1, 1)), none, none, none, some ((.string ByteArray.empty, 1, 16)), none, none, none, none, none, none, none, none, none, none, none, none, none, none, some ((.slice none 0 0, 1, 24)), none, none, none, none, some ((.slice none 0 0, 1, 24)), none, none, none, none, some ((.slice none 0 0, 1, 24)), none, none, none, none, none, none, none, none, none, none, none, some ((.agg #[.int .i64 0, .int .i64 0, .string ByteArray.empty], 3, 32)), some ((.slice none 0 0, 1, 24)), none, some ((.agg #[.int .i64 0, .int .i64 0, .string ByteArray.empty, .string ByteArray.empty, .int .i64 0, .int .i64 0, .string ByteArray.empty, .slice none 0 0], 8, 104)), some ((.slice none 0 0, 1, 24)), none, some ((.agg #[.string ByteArray.empty, .string ByteArray.empty, .int .i64 0, .int .i64 0, .int .i64 0, .int .i64 0, .string ByteArray.empty, .string ByteArray.empty, .int .i64 0, .int .i64 0, .string ByteArray.empty, .slice none 0 0, .slice none 0 0, .string ByteArray.empty, .slice none 0 0], 15, 216)), none, none, some ((.agg #[.int .i64 0, .int .i64 0, .string ByteArray.empty], 3, 32)), some ((.slice none 0 0, 1, 24)), none, some ((.agg #[.int .i64 0, .int .i64 0, .string ByteArray.empty, .string ByteArray.empty, .int .i64 0, .int .i64 0, .string ByteArray.empty, .slice none 0 0], 8, 104)), some ((.slice none 0 0, 1, 24)), none, some ((.agg #[.string ByteArray.empty, .string ByteArray.empty, .int .i64 0, .int .i64 0, .int .i64 0, .int .i64 0, .string ByteArray.empty, .string ByteArray.empty, .int .i64 0, .int .i64 0, .string ByteArray.empty, .slice none 0 0, .slice none 0 0, .string ByteArray.empty, .slice none 0 0], 15, 216)), none, none, none, none, none, none, none, none, none, some ((.slice none 0 0, 1, 24)), none, none, none, none, none, none, none, none, none, none, none, none, none, none, none, none, none, none, none, none, none, none, none, some ((.slice none 0 0, 1, 24)), some ((.slice none 0 0, 1, 24)), none, some ((.agg #[.string ByteArray.empty, .slice none 0 0, .int .i64 0, .slice none 0 0], 4, 72)), none, none, none, none, none, none, none, some ((.slice none 0 0, 1, 24)), some ((.slice none 0 0, 1, 24)), none, some ((.agg #[.string ByteArray.empty, .slice none 0 0, .int .i64 0, .slice none 0 0], 4, 72)), none, none, none, none, none, none, none, none, none, none, none, none, none, none, none, none, none, none, none, none, none, some ((.agg #[.int .i64 0, .int .i64 0, .int .i64 0, .string ByteArray.empty, .string ByteArray.empty, .int .i64 0, .int .i64 0, .string ByteArray.empty, .slice none 0 0], 9, 112)), none, some ((.agg #[.string ByteArray.empty, .int .i64 0, .bool false], 3, 32)), none, none, none, none, none, none, none, none, none, none, none, none, none, none, none, some ((.slice none 0 0, 1, 24)), none, none, none, none, none, none, none, none, none, none, none, none, none, none, none, none, some ((.agg #[.string ByteArray.empty, .slice none 0 0], 2, 40)), none, none, none, none, none, none, none, none, none, none, none, none, none, some ((.agg #[.int .i64 0, .int .i64 0, .int .i64 0, .string ByteArray.empty, .string ByteArray.empty, .int .i64 0, .int .i64 0, .string ByteArray.empty, .slice none 0 0], 9, 112)), none, none, none, none, none, none, none, none, none, none, none, none, none, none, none, none, none, none, none, none, none, none, none, none, none, none, none, none, none, none, none, none, none, none, none, none, none, some ((.agg #[.string ByteArray.empty, .int .i64 0, .bool false], 3, 32)), none, some ((.agg #[.string ByteArray.empty, .slice none 0 0], 2, 40)), none, none, none, none, none, none, none, none, none, none, none, none, none, none, none, none, none, none, some ((.pointer none, 1, 8)), none, some ((.agg #[.slice none 0 0, .slice none 0 0, .bool false, .int .i64 0, .int .i64 0, .int .i64 0], 6, 80)), none, none, some ((.agg #[.string ByteArray.empty, .string ByteArray.empty, .int .i64 0], 3, 40)), none, none, none, none, none, none, none, none, none, none, none, none, none, none, none, none, none, none, none, none, none, none, none, none, some ((.agg #[.int .i64 0, .int .i64 0], 2, 16)), none, none, none, none, none, none, none, none, none, none, some ((.int .u64 0, 1, 8)), none, none, none, none, none, none, none, none, none, none, none, none, none, none, none, none, some ((.pointer none, 1, 8)), none, some ((.agg #[.slice none 0 0, .bool false, .slice none 0 0], 3, 56)), none, none, none, none, none, none, none, none, none, none, none, none, none, none, none, none, none, none, none, none, none, none, none, none, none, none, none, none, none, none, none, none, none, none, none, none]
noncomputable def tyL : List (Option Ty) := [none, none, none, some ((.int .i64)), some (.bool), some ((.int .u8)), none, none, none, some (.str), none, none, none, none, none, none, none, none, none, none, none, none, none, none, some ((.slice (.pair .str (.pair (.slice (.pair .str (.pair (.int .i64) .bool))) (.pair (.int .i64) (.slice (.pair .str (.slice (.int .i64))))))))), none, none, none, none, some ((.slice (.int .i64))), none, none, none, none, some ((.slice (.pair .str (.pair (.slice (.pair .str (.pair (.int .i64) .bool))) (.pair (.int .i64) (.slice (.pair .str (.slice (.int .i64))))))))), none, none, none, none, none, none, none, none, none, none, none, some ((.pair (.int .i64) (.pair (.int .i64) .str))), some ((.slice (.rose (.pair (.int .i64) (.pair (.int .i64) (.pair .str (.pair .str (.pair (.int .i64) (.pair (.int .i64) .str))))))))), none, some ((.rose (.pair (.int .i64) (.pair (.int .i64) (.pair .str (.pair .str (.pair (.int .i64) (.pair (.int .i64) .str)))))))), some ((.slice (.pair (.int .i64) (.rose (.pair (.int .i64) (.pair (.int .i64) (.pair .str (.pair .str (.pair (.int .i64) (.pair (.int .i64) .str)))))))))), none, some ((.pair .str (.pair .str (.pair (.int .i64) (.pair (.int .i64) (.pair (.rose (.pair (.int .i64) (.pair (.int .i64) (.pair .str (.pair .str (.pair (.int .i64) (.pair (.int .i64) .str))))))) (.pair (.slice (.pair (.int .i64) (.rose (.pair (.int .i64) (.pair (.int .i64) (.pair .str (.pair .str (.pair (.int .i64) (.pair (.int .i64) .str))))))))) (.pair .str (.slice (.rose (.pair (.int .i64) (.pair (.int .i64) (.pair .str (.pair .str (.pair (.int .i64) (.pair (.int .i64) .str)))))))))))))))), none, none, some ((.pair (.int .i64) (.pair (.int .i64) .str))), some ((.slice (.rose (.pair (.int .i64) (.pair (.int .i64) (.pair .str (.pair .str (.pair (.int .i64) (.pair (.int .i64) .str))))))))), none, some ((.rose (.pair (.int .i64) (.pair (.int .i64) (.pair .str (.pair .str (.pair (.int .i64) (.pair (.int .i64) .str)))))))), some ((.slice (.pair (.int .i64) (.rose (.pair (.int .i64) (.pair (.int .i64) (.pair .str (.pair .str (.pair (.int .i64) (.pair (.int .i64) .str)))))))))), none, some ((.pair .str (.pair .str (.pair (.int .i64) (.pair (.int .i64) (.pair (.rose (.pair (.int .i64) (.pair (.int .i64) (.pair .str (.pair .str (.pair (.int .i64) (.pair (.int .i64) .str))))))) (.pair (.slice (.pair (.int .i64) (.rose (.pair (.int .i64) (.pair (.int .i64) (.pair .str (.pair .str (.pair (.int .i64) (.pair (.int .i64) .str))))))))) (.pair .str (.slice (.rose (.pair (.int .i64) (.pair (.int .i64) (.pair .str (.pair .str (.pair (.int .i64) (.pair (.int .i64) .str)))))))))))))))), none, none, none, none, none, none, none, none, none, some ((.slice .str)), none, none, none, none, none, none, none, none, none, none, none, none, none, none, none, none, none, none, none, none, none, none, none, some ((.slice (.pair .str (.pair (.int .i64) .bool)))), some ((.slice (.pair .str (.slice (.int .i64))))), none, some ((.pair .str (.pair (.slice (.pair .str (.pair (.int .i64) .bool))) (.pair (.int .i64) (.slice (.pair .str (.slice (.int .i64)))))))), none, none, none, none, none, none, none, some ((.slice (.pair .str (.pair (.int .i64) .bool)))), some ((.slice (.pair .str (.slice (.int .i64))))), none, some ((.pair .str (.pair (.slice (.pair .str (.pair (.int .i64) .bool))) (.pair (.int .i64) (.slice (.pair .str (.slice (.int .i64)))))))), none, none, none, none, none, none, none, none, none, none, none, none, none, none, none, none, none, none, none, none, none, some ((.pair (.int .i64) (.rose (.pair (.int .i64) (.pair (.int .i64) (.pair .str (.pair .str (.pair (.int .i64) (.pair (.int .i64) .str))))))))), none, some ((.pair .str (.pair (.int .i64) .bool))), none, none, none, none, none, none, none, none, none, none, none, none, none, none, none, some ((.slice (.pair .str (.pair .str (.int .i64))))), none, none, none, none, none, none, none, none, none, none, none, none, none, none, none, none, some ((.pair .str (.slice (.int .i64)))), none, none, none, none, none, none, none, none, none, none, none, none, none, some ((.pair (.int .i64) (.rose (.pair (.int .i64) (.pair (.int .i64) (.pair .str (.pair .str (.pair (.int .i64) (.pair (.int .i64) .str))))))))), none, none, none, none, none, none, none, none, none, none, none, none, none, none, none, none, none, none, none, none, none, none, none, none, none, none, none, none, none, none, none, none, none, none, none, none, none, some ((.pair .str (.pair (.int .i64) .bool))), none, some ((.pair .str (.slice (.int .i64)))), none, none, none, none, none, none, none, none, none, none, none, none, none, none, none, none, none, none, none, none, some ((.pair (.slice (.pair .str (.pair .str (.int .i64)))) (.pair (.slice (.int .i64)) (.pair .bool (.pair (.int .i64) (.pair (.int .i64) (.int .i64))))))), none, none, some ((.pair .str (.pair .str (.int .i64)))), none, none, none, none, none, none, none, none, none, none, none, none, none, none, none, none, none, none, none, none, none, none, none, none, some ((.pair (.int .i64) (.int .i64))), none, none, none, none, none, none, none, none, none, none, some ((.int .u64)), none, none, none, none, none, none, none, none, none, none, none, none, none, none, none, none, none, none, some ((.pair (.slice (.pair .str (.pair .str (.int .i64)))) (.pair .bool (.slice (.int .i64))))), none, none, none, none, none, none, none, none, none, none, none, none, none, none, none, none, none, none, none, none, none, none, none, none, none, none, none, none, none, none, none, none, none, none, none, none]
noncomputable def eqL : List (Option (List Ty)) := [none, none, none, none, none, none, none, none, none, none, none, none, none, none, none, none, none, none, none, none, none, none, none, none, none, none, none, none, none, none, none, none, none, none, none, none, none, none, none, none, none, none, none, none, none, none, none, none, none, none, none, none, none, none, none, some ([.int .i64, .int .i64, .str]), none, none, none, none, none, none, none, none, none, none, none, none, none, none, none, none, none, none, none, none, none, none, none, none, none, none, none, none, none, none, none, none, none, none, none, none, none, none, none, none, none, none, none, none, none, none, none, none, none, none, none, none, none, none, none, none, none, none, none, none, none, none, none, none, none, none, none, none, none, none, none, none, none, none, none, none, none, none, none, none, none, none, none, none, none, none, none, none, none, none, none, none, none, none, none, none, none, none, none, none, none, none, none, none, none, none, none, none, none, none, none, none, none, none, none, none, none, none, none, none, none, none, none, none, none, none, none, none, none, none, none, none, none, none, none, none, none, none, none, none, none, none, none, none, none, none, none, none, none, none, none, none, none, none, none, none, none, none, none, none, none, none, none, none, none, none, none, none, none, none, none, none, none, none, none, none, none, none, none, none, none, none, none, none, none, none, none, none, none, none, none, none, none, none, none, none, none, none, none, none, none, none, none, none, none, none, none, none, none, none, none, none, none, none, none, none, none, none, none, none, none, none, none, none, none, none, none, none, none, none, none, none, none, none, none, none, none, none, none, none, none, none, none, none, none, none, none, none, none, none, none, none, none, none, none, none, none, none, none, none, none, none, none, none, none, none, none, none, none, none, none, none, none, none, none, none, none, none, none, none]
noncomputable def fnL : List (Option Func) := [none, none, none, none, some Tryz.f4, none, none, none, some Tryz.f8, none, none, none, some Tryz.f12, none, none, some Tryz.f15, some Tryz.f16, none, none, none, none, none, some Tryz.f22, some Tryz.f23, some Tryz.f24, some Tryz.f25, some Tryz.f26, none, none, none, none, none, none, none, none, none, none, none, none, none, some Tryz.f40, none, some Tryz.f42, none, none, some Tryz.f45, some Tryz.f46, none, none, none, none, some Tryz.f51, none, some Tryz.f53, none, none, none, none, some Tryz.f58, none, none, none, none, none, some Tryz.f64, some Tryz.f65, some Tryz.f66, some Tryz.f67, some Tryz.f68, some Tryz.f69, some Tryz.f70, some Tryz.f71, some Tryz.f72, some Tryz.f73, some Tryz.f74, some Tryz.f75, none, none, none, none, none, none, none, none, none, none, none, none, some Tryz.f88, none, none, some Tryz.f91, none, none, some Tryz.f94, some Tryz.f95, some Tryz.f96, none, none, none, none, none, none, none, some Tryz.f104, some Tryz.f105, none, none, some Tryz.f108, some Tryz.f109, none, none, none, some Tryz.f113, some Tryz.f114, none, some Tryz.f116, some Tryz.f117, some Tryz.f118, some Tryz.f119, some Tryz.f120, some Tryz.f121, some Tryz.f122, some Tryz.f123, some Tryz.f124, some Tryz.f125, some Tryz.f126, some Tryz.f127, some Tryz.f128, some Tryz.f129, some Tryz.f130, some Tryz.f131, none, none, none, none, none, none, none, none, none, none, some Tryz.f142, none, none, none, none, none, none, none, none, none, none, none, none, none, none, none, none, none, some Tryz.f160, some Tryz.f161, some Tryz.f162, none, none, none, none, some Tryz.f167, some Tryz.f168, none, some Tryz.f170, some Tryz.f171, none, some Tryz.f173, some Tryz.f174, some Tryz.f175, some Tryz.f176, some Tryz.f177, some Tryz.f178, some Tryz.f179, some Tryz.f180, some Tryz.f181, some Tryz.f182, some Tryz.f183, some Tryz.f184, some Tryz.f185, some Tryz.f186, some Tryz.f187, some Tryz.f188, some Tryz.f189, some Tryz.f190, some Tryz.f191, some Tryz.f192, some Tryz.f193, some Tryz.f194, none, none, some Tryz.f197, none, none, none, none, some Tryz.f202, none, none, none, none, some Tryz.f207, none, none, some Tryz.f210, some Tryz.f211, none, some Tryz.f213, none, some Tryz.f215, none, none, none, none, none, none, none, some Tryz.f223, none, some Tryz.f225, none, none, none, some Tryz.f229, some Tryz.f230, some Tryz.f231, none, none, some Tryz.f234, none, some Tryz.f236, some Tryz.f237, some Tryz.f238, some Tryz.f239, some Tryz.f240, some Tryz.f241, some Tryz.f242, some Tryz.f243, some Tryz.f244, some Tryz.f245, some Tryz.f246, some Tryz.f247, some Tryz.f248, some Tryz.f249, some Tryz.f250, some Tryz.f251, none, some Tryz.f253, some Tryz.f254, some Tryz.f255, none, none, none, none, none, none, none, none, some Tryz.f264, some Tryz.f265, some Tryz.f266, some Tryz.f267, some Tryz.f268, some Tryz.f269, none, none, none, none, none, none, none, none, some Tryz.f278, none, some Tryz.f280, some Tryz.f281, none, some Tryz.f283, some Tryz.f284, some Tryz.f285, some Tryz.f286, none, some Tryz.f288, none, none, none, none, none, none, none, none, none, some Tryz.f298, none, some Tryz.f300, some Tryz.f301, none, none, none, none, none, none, none, some Tryz.f309]
noncomputable def modeL : List (Nat × List Mode) := [(123, [.tk]), (182, [.wr]), (240, [.wr]), (241, [.wr])]
noncomputable def liveL : List (Nat × List (Nat × List Nat)) := [(8, [(0, [0, 1, 5])]), (12, [(0, [0, 3, 4])]), (15, [(0, [0, 1, 5])]), (16, [(0, [0, 1, 5])]), (23, [(4, [1, 2, 6, 10, 11]), (2, [1, 2, 6, 7, 8, 9]), (0, [1, 2, 6, 7])]), (51, [(0, [0, 1, 5])]), (64, [(0, [0, 1, 5])]), (65, [(0, [0, 1, 5])]), (66, [(0, [0, 3])]), (67, [(0, [0, 3])]), (70, [(0, [0, 3, 4])]), (71, [(0, [0, 3, 4])]), (72, [(0, [0, 5, 6, 7])]), (74, [(0, [0, 1, 5])]), (75, [(0, [0, 1, 5])]), (95, [(0, [0, 1, 5])]), (96, [(0, [0, 1, 5])]), (104, [(0, [0, 3, 4])]), (105, [(0, [0, 3, 4])]), (113, [(0, [0, 1, 5])]), (114, [(0, [0, 1, 5])]), (117, [(2, [1, 5]), (0, [1, 3])]), (121, [(0, [1, 3])]), (123, [(0, [0, 2, 4, 7])]), (125, [(2, [1, 64, 65, 66]), (0, [1, 34, 35, 36])]), (127, [(0, [1, 5, 10, 11, 12])]), (129, [(0, [2, 3, 4, 10, 11, 12])]), (130, [(0, [1, 2, 7, 40, 41, 42])]), (170, [(0, [0, 1, 2, 8, 9, 10])]), (175, [(0, [0, 1, 5])]), (176, [(0, [2, 3, 5])]), (177, [(0, [0, 1, 5])]), (178, [(0, [0, 3])]), (179, [(0, [1, 2, 3, 7])]), (181, [(0, [0, 3])]), (187, [(0, [0, 5, 6])]), (223, [(0, [1, 14, 15, 16])]), (225, [(0, [0, 4])]), (229, [(0, [1, 2, 8, 11, 12, 13])]), (231, [(0, [0, 3, 4])]), (236, [(0, [0, 1, 5])]), (239, [(0, [0, 1, 2, 8, 9])]), (242, [(0, [0, 1, 7, 8])]), (244, [(0, [0, 5, 6, 7])]), (247, [(0, [0, 1, 7, 8])]), (251, [(0, [0, 1, 7, 8])]), (254, [(0, [0, 3, 5, 6, 9, 10, 18, 19, 20])]), (255, [(0, [0, 1, 7, 8])]), (265, [(0, [3, 7, 8, 9])]), (266, [(0, [0, 1, 7, 8])]), (281, [(0, [0, 1, 7, 8])]), (298, [(0, [0, 1, 7, 8])]), (309, [(0, [0, 1, 7, 8])])]
noncomputable def outsL : List (Nat × List Bool) := [(12, [true]), (24, [true]), (42, [true]), (53, [true]), (70, [true]), (71, [true]), (104, [true]), (105, [true]), (119, [true]), (123, [true]), (124, [true]), (127, [true]), (168, [true]), (189, [true]), (231, [true]), (269, [true]), (278, [true])]
def find {α : Type} (d : α) : List (Nat × α) → Nat → α
  | [], _ => d
  | p :: l, n => bif Nat.beq p.1 n then p.2 else find d l n
def join {α : Type} : Option (Option α) → Option α
  | some x => x
  | none => none
def extL : List Nat := [252]
noncomputable def Γ : Tab := { fn := fun f => join (lat? fnL f), und := fun t => join (lat? undL t), info := fun t => join (lat? infoL t), ty := fun t => join (lat? tyL t), mode := find [] modeL, live := fun f b => find [] (find [] liveL f) b, outs := find [] outsL, extb := fun f => lhas extL f, eqs := fun t => join (lat? eqL t), gls := [(0, intAt0)] }
end Go.Proofs.GR.T

namespace Go.Proofs.GR.T
open Go.Proofs
def AllT {α : Type} (Q : Nat → α → Prop) : Nat → List (Option α) → Prop
  | _, [] => True
  | i, none :: r => AllT Q (i + 1) r
  | i, some d :: r => Q i d ∧ AllT Q (i + 1) r
theorem all_at {α : Type} {Q : Nat → α → Prop} : ∀ (l : List (Option α)) (i : Nat), AllT Q i l → ∀ (t : Nat) (d : α), join (lat? l t) = some d → Q (i + t) d
  | [], i, _, t, d, h => by cases t <;> cases h
  | none :: r, i, ha, 0, d, h => by cases h
  | none :: r, i, ha, t + 1, d, h => by have := all_at r (i + 1) ha t d h; rw [show i + (t + 1) = i + 1 + t by omega]; exact this
  | some x :: r, i, ha, 0, d, h => by cases h; exact ha.1
  | some x :: r, i, ha, t + 1, d, h => by have := all_at r (i + 1) ha.2 t d h; rw [show i + (t + 1) = i + 1 + t by omega]; exact this
def InfoQ (t : Nat) (x : Value × Nat × Nat) : Prop := ∃ i, Tryz.prog.info? t = some i ∧ i.zero = some x.1 ∧ i.size = x.2.1 ∧ i.bytes = x.2.2 ∧ x.1.cells.size = x.2.1 ∧ x.1.cells.toList.all Value.oneCell' = true
def TyQ (t : Nat) (τ : Ty) : Prop := ∃ i, Tryz.prog.info? t = some i ∧ i.size = τ.sz ∧ Nat.blt 0 τ.sz = true
def FnQ (f : Nat) (fn : Func) : Prop := Tryz.prog.funcs[f]? = some fn ∧ (fn.name == "runtime.NumGoroutine") = false
theorem inf3 : Tryz.prog.info? 3 = some Tryz.t3 := by kernel_rfl
theorem inf4 : Tryz.prog.info? 4 = some Tryz.t4 := by kernel_rfl
theorem inf5 : Tryz.prog.info? 5 = some Tryz.t5 := by kernel_rfl
theorem inf9 : Tryz.prog.info? 9 = some Tryz.t9 := by kernel_rfl
theorem inf24 : Tryz.prog.info? 24 = some Tryz.t24 := by kernel_rfl
theorem inf29 : Tryz.prog.info? 29 = some Tryz.t29 := by kernel_rfl
theorem inf34 : Tryz.prog.info? 34 = some Tryz.t34 := by kernel_rfl
theorem inf46 : Tryz.prog.info? 46 = some Tryz.t46 := by kernel_rfl
theorem inf47 : Tryz.prog.info? 47 = some Tryz.t47 := by kernel_rfl
theorem inf49 : Tryz.prog.info? 49 = some Tryz.t49 := by kernel_rfl
theorem inf50 : Tryz.prog.info? 50 = some Tryz.t50 := by kernel_rfl
theorem inf52 : Tryz.prog.info? 52 = some Tryz.t52 := by kernel_rfl
theorem inf55 : Tryz.prog.info? 55 = some Tryz.t55 := by kernel_rfl
theorem inf56 : Tryz.prog.info? 56 = some Tryz.t56 := by kernel_rfl
theorem inf58 : Tryz.prog.info? 58 = some Tryz.t58 := by kernel_rfl
theorem inf59 : Tryz.prog.info? 59 = some Tryz.t59 := by kernel_rfl
theorem inf61 : Tryz.prog.info? 61 = some Tryz.t61 := by kernel_rfl
theorem inf71 : Tryz.prog.info? 71 = some Tryz.t71 := by kernel_rfl
theorem inf95 : Tryz.prog.info? 95 = some Tryz.t95 := by kernel_rfl
theorem inf96 : Tryz.prog.info? 96 = some Tryz.t96 := by kernel_rfl
theorem inf98 : Tryz.prog.info? 98 = some Tryz.t98 := by kernel_rfl
theorem inf106 : Tryz.prog.info? 106 = some Tryz.t106 := by kernel_rfl
theorem inf107 : Tryz.prog.info? 107 = some Tryz.t107 := by kernel_rfl
theorem inf109 : Tryz.prog.info? 109 = some Tryz.t109 := by kernel_rfl
theorem inf131 : Tryz.prog.info? 131 = some Tryz.t131 := by kernel_rfl
theorem inf133 : Tryz.prog.info? 133 = some Tryz.t133 := by kernel_rfl
theorem inf149 : Tryz.prog.info? 149 = some Tryz.t149 := by kernel_rfl
theorem inf166 : Tryz.prog.info? 166 = some Tryz.t166 := by kernel_rfl
theorem inf180 : Tryz.prog.info? 180 = some Tryz.t180 := by kernel_rfl
theorem inf218 : Tryz.prog.info? 218 = some Tryz.t218 := by kernel_rfl
theorem inf220 : Tryz.prog.info? 220 = some Tryz.t220 := by kernel_rfl
theorem inf239 : Tryz.prog.info? 239 = some Tryz.t239 := by kernel_rfl
theorem inf241 : Tryz.prog.info? 241 = some Tryz.t241 := by kernel_rfl
theorem inf244 : Tryz.prog.info? 244 = some Tryz.t244 := by kernel_rfl
theorem inf269 : Tryz.prog.info? 269 = some Tryz.t269 := by kernel_rfl
theorem inf280 : Tryz.prog.info? 280 = some Tryz.t280 := by kernel_rfl
theorem inf297 : Tryz.prog.info? 297 = some Tryz.t297 := by kernel_rfl
theorem inf299 : Tryz.prog.info? 299 = some Tryz.t299 := by kernel_rfl
theorem fnm4 : (Tryz.f4.name == "runtime.NumGoroutine") = false := by kernel_rfl
theorem fnm8 : (Tryz.f8.name == "runtime.NumGoroutine") = false := by kernel_rfl
theorem fnm12 : (Tryz.f12.name == "runtime.NumGoroutine") = false := by kernel_rfl
theorem fnm15 : (Tryz.f15.name == "runtime.NumGoroutine") = false := by kernel_rfl
theorem fnm16 : (Tryz.f16.name == "runtime.NumGoroutine") = false := by kernel_rfl
theorem fnm22 : (Tryz.f22.name == "runtime.NumGoroutine") = false := by kernel_rfl
theorem fnm23 : (Tryz.f23.name == "runtime.NumGoroutine") = false := by kernel_rfl
theorem fnm24 : (Tryz.f24.name == "runtime.NumGoroutine") = false := by kernel_rfl
theorem fnm25 : (Tryz.f25.name == "runtime.NumGoroutine") = false := by kernel_rfl
theorem fnm26 : (Tryz.f26.name == "runtime.NumGoroutine") = false := by kernel_rfl
theorem fnm40 : (Tryz.f40.name == "runtime.NumGoroutine") = false := by kernel_rfl
theorem fnm42 : (Tryz.f42.name == "runtime.NumGoroutine") = false := by kernel_rfl
theorem fnm45 : (Tryz.f45.name == "runtime.NumGoroutine") = false := by kernel_rfl
theorem fnm46 : (Tryz.f46.name == "runtime.NumGoroutine") = false := by kernel_rfl
theorem fnm51 : (Tryz.f51.name == "runtime.NumGoroutine") = false := by kernel_rfl
theorem fnm53 : (Tryz.f53.name == "runtime.NumGoroutine") = false := by kernel_rfl
theorem fnm58 : (Tryz.f58.name == "runtime.NumGoroutine") = false := by kernel_rfl
theorem fnm64 : (Tryz.f64.name == "runtime.NumGoroutine") = false := by kernel_rfl
theorem fnm65 : (Tryz.f65.name == "runtime.NumGoroutine") = false := by kernel_rfl
theorem fnm66 : (Tryz.f66.name == "runtime.NumGoroutine") = false := by kernel_rfl
theorem fnm67 : (Tryz.f67.name == "runtime.NumGoroutine") = false := by kernel_rfl
theorem fnm68 : (Tryz.f68.name == "runtime.NumGoroutine") = false := by kernel_rfl
theorem fnm69 : (Tryz.f69.name == "runtime.NumGoroutine") = false := by kernel_rfl
theorem fnm70 : (Tryz.f70.name == "runtime.NumGoroutine") = false := by kernel_rfl
theorem fnm71 : (Tryz.f71.name == "runtime.NumGoroutine") = false := by kernel_rfl
theorem fnm72 : (Tryz.f72.name == "runtime.NumGoroutine") = false := by kernel_rfl
theorem fnm73 : (Tryz.f73.name == "runtime.NumGoroutine") = false := by kernel_rfl
theorem fnm74 : (Tryz.f74.name == "runtime.NumGoroutine") = false := by kernel_rfl
theorem fnm75 : (Tryz.f75.name == "runtime.NumGoroutine") = false := by kernel_rfl
theorem fnm88 : (Tryz.f88.name == "runtime.NumGoroutine") = false := by kernel_rfl
theorem fnm91 : (Tryz.f91.name == "runtime.NumGoroutine") = false := by kernel_rfl
theorem fnm94 : (Tryz.f94.name == "runtime.NumGoroutine") = false := by kernel_rfl
theorem fnm95 : (Tryz.f95.name == "runtime.NumGoroutine") = false := by kernel_rfl
theorem fnm96 : (Tryz.f96.name == "runtime.NumGoroutine") = false := by kernel_rfl
theorem fnm104 : (Tryz.f104.name == "runtime.NumGoroutine") = false := by kernel_rfl
theorem fnm105 : (Tryz.f105.name == "runtime.NumGoroutine") = false := by kernel_rfl
theorem fnm108 : (Tryz.f108.name == "runtime.NumGoroutine") = false := by kernel_rfl
theorem fnm109 : (Tryz.f109.name == "runtime.NumGoroutine") = false := by kernel_rfl
theorem fnm113 : (Tryz.f113.name == "runtime.NumGoroutine") = false := by kernel_rfl
theorem fnm114 : (Tryz.f114.name == "runtime.NumGoroutine") = false := by kernel_rfl
theorem fnm116 : (Tryz.f116.name == "runtime.NumGoroutine") = false := by kernel_rfl
theorem fnm117 : (Tryz.f117.name == "runtime.NumGoroutine") = false := by kernel_rfl
theorem fnm118 : (Tryz.f118.name == "runtime.NumGoroutine") = false := by kernel_rfl
theorem fnm119 : (Tryz.f119.name == "runtime.NumGoroutine") = false := by kernel_rfl
theorem fnm120 : (Tryz.f120.name == "runtime.NumGoroutine") = false := by kernel_rfl
theorem fnm121 : (Tryz.f121.name == "runtime.NumGoroutine") = false := by kernel_rfl
theorem fnm122 : (Tryz.f122.name == "runtime.NumGoroutine") = false := by kernel_rfl
theorem fnm123 : (Tryz.f123.name == "runtime.NumGoroutine") = false := by kernel_rfl
theorem fnm124 : (Tryz.f124.name == "runtime.NumGoroutine") = false := by kernel_rfl
theorem fnm125 : (Tryz.f125.name == "runtime.NumGoroutine") = false := by kernel_rfl
theorem fnm126 : (Tryz.f126.name == "runtime.NumGoroutine") = false := by kernel_rfl
theorem fnm127 : (Tryz.f127.name == "runtime.NumGoroutine") = false := by kernel_rfl
theorem fnm128 : (Tryz.f128.name == "runtime.NumGoroutine") = false := by kernel_rfl
theorem fnm129 : (Tryz.f129.name == "runtime.NumGoroutine") = false := by kernel_rfl
theorem fnm130 : (Tryz.f130.name == "runtime.NumGoroutine") = false := by kernel_rfl
theorem fnm131 : (Tryz.f131.name == "runtime.NumGoroutine") = false := by kernel_rfl
theorem fnm142 : (Tryz.f142.name == "runtime.NumGoroutine") = false := by kernel_rfl
theorem fnm160 : (Tryz.f160.name == "runtime.NumGoroutine") = false := by kernel_rfl
theorem fnm161 : (Tryz.f161.name == "runtime.NumGoroutine") = false := by kernel_rfl
theorem fnm162 : (Tryz.f162.name == "runtime.NumGoroutine") = false := by kernel_rfl
theorem fnm167 : (Tryz.f167.name == "runtime.NumGoroutine") = false := by kernel_rfl
theorem fnm168 : (Tryz.f168.name == "runtime.NumGoroutine") = false := by kernel_rfl
theorem fnm170 : (Tryz.f170.name == "runtime.NumGoroutine") = false := by kernel_rfl
theorem fnm171 : (Tryz.f171.name == "runtime.NumGoroutine") = false := by kernel_rfl
theorem fnm173 : (Tryz.f173.name == "runtime.NumGoroutine") = false := by kernel_rfl
theorem fnm174 : (Tryz.f174.name == "runtime.NumGoroutine") = false := by kernel_rfl
theorem fnm175 : (Tryz.f175.name == "runtime.NumGoroutine") = false := by kernel_rfl
theorem fnm176 : (Tryz.f176.name == "runtime.NumGoroutine") = false := by kernel_rfl
theorem fnm177 : (Tryz.f177.name == "runtime.NumGoroutine") = false := by kernel_rfl
theorem fnm178 : (Tryz.f178.name == "runtime.NumGoroutine") = false := by kernel_rfl
theorem fnm179 : (Tryz.f179.name == "runtime.NumGoroutine") = false := by kernel_rfl
theorem fnm180 : (Tryz.f180.name == "runtime.NumGoroutine") = false := by kernel_rfl
theorem fnm181 : (Tryz.f181.name == "runtime.NumGoroutine") = false := by kernel_rfl
theorem fnm182 : (Tryz.f182.name == "runtime.NumGoroutine") = false := by kernel_rfl
theorem fnm183 : (Tryz.f183.name == "runtime.NumGoroutine") = false := by kernel_rfl
theorem fnm184 : (Tryz.f184.name == "runtime.NumGoroutine") = false := by kernel_rfl
theorem fnm185 : (Tryz.f185.name == "runtime.NumGoroutine") = false := by kernel_rfl
theorem fnm186 : (Tryz.f186.name == "runtime.NumGoroutine") = false := by kernel_rfl
theorem fnm187 : (Tryz.f187.name == "runtime.NumGoroutine") = false := by kernel_rfl
theorem fnm188 : (Tryz.f188.name == "runtime.NumGoroutine") = false := by kernel_rfl
theorem fnm189 : (Tryz.f189.name == "runtime.NumGoroutine") = false := by kernel_rfl
theorem fnm190 : (Tryz.f190.name == "runtime.NumGoroutine") = false := by kernel_rfl
theorem fnm191 : (Tryz.f191.name == "runtime.NumGoroutine") = false := by kernel_rfl
theorem fnm192 : (Tryz.f192.name == "runtime.NumGoroutine") = false := by kernel_rfl
theorem fnm193 : (Tryz.f193.name == "runtime.NumGoroutine") = false := by kernel_rfl
theorem fnm194 : (Tryz.f194.name == "runtime.NumGoroutine") = false := by kernel_rfl
theorem fnm197 : (Tryz.f197.name == "runtime.NumGoroutine") = false := by kernel_rfl
theorem fnm202 : (Tryz.f202.name == "runtime.NumGoroutine") = false := by kernel_rfl
theorem fnm207 : (Tryz.f207.name == "runtime.NumGoroutine") = false := by kernel_rfl
theorem fnm210 : (Tryz.f210.name == "runtime.NumGoroutine") = false := by kernel_rfl
theorem fnm211 : (Tryz.f211.name == "runtime.NumGoroutine") = false := by kernel_rfl
theorem fnm213 : (Tryz.f213.name == "runtime.NumGoroutine") = false := by kernel_rfl
theorem fnm215 : (Tryz.f215.name == "runtime.NumGoroutine") = false := by kernel_rfl
theorem fnm223 : (Tryz.f223.name == "runtime.NumGoroutine") = false := by kernel_rfl
theorem fnm225 : (Tryz.f225.name == "runtime.NumGoroutine") = false := by kernel_rfl
theorem fnm229 : (Tryz.f229.name == "runtime.NumGoroutine") = false := by kernel_rfl
theorem fnm230 : (Tryz.f230.name == "runtime.NumGoroutine") = false := by kernel_rfl
theorem fnm231 : (Tryz.f231.name == "runtime.NumGoroutine") = false := by kernel_rfl
theorem fnm234 : (Tryz.f234.name == "runtime.NumGoroutine") = false := by kernel_rfl
theorem fnm236 : (Tryz.f236.name == "runtime.NumGoroutine") = false := by kernel_rfl
theorem fnm237 : (Tryz.f237.name == "runtime.NumGoroutine") = false := by kernel_rfl
theorem fnm238 : (Tryz.f238.name == "runtime.NumGoroutine") = false := by kernel_rfl
theorem fnm239 : (Tryz.f239.name == "runtime.NumGoroutine") = false := by kernel_rfl
theorem fnm240 : (Tryz.f240.name == "runtime.NumGoroutine") = false := by kernel_rfl
theorem fnm241 : (Tryz.f241.name == "runtime.NumGoroutine") = false := by kernel_rfl
theorem fnm242 : (Tryz.f242.name == "runtime.NumGoroutine") = false := by kernel_rfl
theorem fnm243 : (Tryz.f243.name == "runtime.NumGoroutine") = false := by kernel_rfl
theorem fnm244 : (Tryz.f244.name == "runtime.NumGoroutine") = false := by kernel_rfl
theorem fnm245 : (Tryz.f245.name == "runtime.NumGoroutine") = false := by kernel_rfl
theorem fnm246 : (Tryz.f246.name == "runtime.NumGoroutine") = false := by kernel_rfl
theorem fnm247 : (Tryz.f247.name == "runtime.NumGoroutine") = false := by kernel_rfl
theorem fnm248 : (Tryz.f248.name == "runtime.NumGoroutine") = false := by kernel_rfl
theorem fnm249 : (Tryz.f249.name == "runtime.NumGoroutine") = false := by kernel_rfl
theorem fnm250 : (Tryz.f250.name == "runtime.NumGoroutine") = false := by kernel_rfl
theorem fnm251 : (Tryz.f251.name == "runtime.NumGoroutine") = false := by kernel_rfl
theorem fnm253 : (Tryz.f253.name == "runtime.NumGoroutine") = false := by kernel_rfl
theorem fnm254 : (Tryz.f254.name == "runtime.NumGoroutine") = false := by kernel_rfl
theorem fnm255 : (Tryz.f255.name == "runtime.NumGoroutine") = false := by kernel_rfl
theorem fnm264 : (Tryz.f264.name == "runtime.NumGoroutine") = false := by kernel_rfl
theorem fnm265 : (Tryz.f265.name == "runtime.NumGoroutine") = false := by kernel_rfl
theorem fnm266 : (Tryz.f266.name == "runtime.NumGoroutine") = false := by kernel_rfl
theorem fnm267 : (Tryz.f267.name == "runtime.NumGoroutine") = false := by kernel_rfl
theorem fnm268 : (Tryz.f268.name == "runtime.NumGoroutine") = false := by kernel_rfl
theorem fnm269 : (Tryz.f269.name == "runtime.NumGoroutine") = false := by kernel_rfl
theorem fnm278 : (Tryz.f278.name == "runtime.NumGoroutine") = false := by kernel_rfl
theorem fnm280 : (Tryz.f280.name == "runtime.NumGoroutine") = false := by kernel_rfl
theorem fnm281 : (Tryz.f281.name == "runtime.NumGoroutine") = false := by kernel_rfl
theorem fnm283 : (Tryz.f283.name == "runtime.NumGoroutine") = false := by kernel_rfl
theorem fnm284 : (Tryz.f284.name == "runtime.NumGoroutine") = false := by kernel_rfl
theorem fnm285 : (Tryz.f285.name == "runtime.NumGoroutine") = false := by kernel_rfl
theorem fnm286 : (Tryz.f286.name == "runtime.NumGoroutine") = false := by kernel_rfl
theorem fnm288 : (Tryz.f288.name == "runtime.NumGoroutine") = false := by kernel_rfl
theorem fnm298 : (Tryz.f298.name == "runtime.NumGoroutine") = false := by kernel_rfl
theorem fnm300 : (Tryz.f300.name == "runtime.NumGoroutine") = false := by kernel_rfl
theorem fnm301 : (Tryz.f301.name == "runtime.NumGoroutine") = false := by kernel_rfl
theorem fnm309 : (Tryz.f309.name == "runtime.NumGoroutine") = false := by kernel_rfl
theorem und_all : AllT (fun t d => Tryz.prog.underlying t = some d) 0 undL := ⟨Tryz.underlying3, ⟨Tryz.underlying4, ⟨Tryz.underlying5, ⟨Tryz.underlying9, ⟨Tryz.underlying24, ⟨Tryz.underlying29, ⟨Tryz.underlying34, ⟨Tryz.underlying46, ⟨Tryz.underlying47, ⟨Tryz.underlying49, ⟨Tryz.underlying50, ⟨Tryz.underlying52, ⟨Tryz.underlying55, ⟨Tryz.underlying56, ⟨Tryz.underlying58, ⟨Tryz.underlying59, ⟨Tryz.underlying61, ⟨Tryz.underlying71, ⟨Tryz.underlying95, ⟨Tryz.underlying96, ⟨Tryz.underlying98, ⟨Tryz.underlying106, ⟨Tryz.underlying107, ⟨Tryz.underlying109, ⟨Tryz.underlying131, ⟨Tryz.underlying133, ⟨Tryz.underlying149, ⟨Tryz.underlying166, ⟨Tryz.underlying180, ⟨Tryz.underlying218, ⟨Tryz.underlying220, ⟨Tryz.underlying239, ⟨Tryz.underlying241, ⟨Tryz.underlying244, ⟨Tryz.underlying269, ⟨Tryz.underlying280, ⟨Tryz.underlying297, ⟨Tryz.underlying299, trivial⟩⟩⟩⟩⟩⟩⟩⟩⟩⟩⟩⟩⟩⟩⟩⟩⟩⟩⟩⟩⟩⟩⟩⟩⟩⟩⟩⟩⟩⟩⟩⟩⟩⟩⟩⟩⟩⟩
theorem info_all : AllT InfoQ 0 infoL := ⟨⟨Tryz.t3, inf3, rfl, rfl, rfl, rfl, rfl⟩, ⟨⟨Tryz.t4, inf4, rfl, rfl, rfl, rfl, rfl⟩, ⟨⟨Tryz.t5, inf5, rfl, rfl, rfl, rfl, rfl⟩, ⟨⟨Tryz.t9, inf9, rfl, rfl, rfl, rfl, rfl⟩, ⟨⟨Tryz.t24, inf24, rfl, rfl, rfl, rfl, rfl⟩, ⟨⟨Tryz.t29, inf29, rfl, rfl, rfl, rfl, rfl⟩, ⟨⟨Tryz.t34, inf34, rfl, rfl, rfl, rfl, rfl⟩, ⟨⟨Tryz.t46, inf46, rfl, rfl, rfl, rfl, rfl⟩, ⟨⟨Tryz.t47, inf47, rfl, rfl, rfl, rfl, rfl⟩, ⟨⟨Tryz.t49, inf49, rfl, rfl, rfl, rfl, rfl⟩, ⟨⟨Tryz.t50, inf50, rfl, rfl, rfl, rfl, rfl⟩, ⟨⟨Tryz.t52, inf52, rfl, rfl, rfl, rfl, rfl⟩, ⟨⟨Tryz.t55, inf55, rfl, rfl, rfl, rfl, rfl⟩, ⟨⟨Tryz.t56, inf56, rfl, rfl, rfl, rfl, rfl⟩, ⟨⟨Tryz.t58, inf58, rfl, rfl, rfl, rfl, rfl⟩, ⟨⟨Tryz.t59, inf59, rfl, rfl, rfl, rfl, rfl⟩, ⟨⟨Tryz.t61, inf61, rfl, rfl, rfl, rfl, rfl⟩, ⟨⟨Tryz.t71, inf71, rfl, rfl, rfl, rfl, rfl⟩, ⟨⟨Tryz.t95, inf95, rfl, rfl, rfl, rfl, rfl⟩, ⟨⟨Tryz.t96, inf96, rfl, rfl, rfl, rfl, rfl⟩, ⟨⟨Tryz.t98, inf98, rfl, rfl, rfl, rfl, rfl⟩, ⟨⟨Tryz.t106, inf106, rfl, rfl, rfl, rfl, rfl⟩, ⟨⟨Tryz.t107, inf107, rfl, rfl, rfl, rfl, rfl⟩, ⟨⟨Tryz.t109, inf109, rfl, rfl, rfl, rfl, rfl⟩, ⟨⟨Tryz.t131, inf131, rfl, rfl, rfl, rfl, rfl⟩, ⟨⟨Tryz.t133, inf133, rfl, rfl, rfl, rfl, rfl⟩, ⟨⟨Tryz.t149, inf149, rfl, rfl, rfl, rfl, rfl⟩, ⟨⟨Tryz.t166, inf166, rfl, rfl, rfl, rfl, rfl⟩, ⟨⟨Tryz.t180, inf180, rfl, rfl, rfl, rfl, rfl⟩, ⟨⟨Tryz.t218, inf218, rfl, rfl, rfl, rfl, rfl⟩, ⟨⟨Tryz.t220, inf220, rfl, rfl, rfl, rfl, rfl⟩, ⟨⟨Tryz.t239, inf239, rfl, rfl, rfl, rfl, rfl⟩, ⟨⟨Tryz.t241, inf241, rfl, rfl, rfl, rfl, rfl⟩, ⟨⟨Tryz.t244, inf244, rfl, rfl, rfl, rfl, rfl⟩, ⟨⟨Tryz.t269, inf269, rfl, rfl, rfl, rfl, rfl⟩, ⟨⟨Tryz.t280, inf280, rfl, rfl, rfl, rfl, rfl⟩, ⟨⟨Tryz.t297, inf297, rfl, rfl, rfl, rfl, rfl⟩, ⟨⟨Tryz.t299, inf299, rfl, rfl, rfl, rfl, rfl⟩, trivial⟩⟩⟩⟩⟩⟩⟩⟩⟩⟩⟩⟩⟩⟩⟩⟩⟩⟩⟩⟩⟩⟩⟩⟩⟩⟩⟩⟩⟩⟩⟩⟩⟩⟩⟩⟩⟩⟩
theorem ty_all : AllT TyQ 0 tyL := ⟨⟨Tryz.t3, inf3, rfl, rfl⟩, ⟨⟨Tryz.t4, inf4, rfl, rfl⟩, ⟨⟨Tryz.t5, inf5, rfl, rfl⟩, ⟨⟨Tryz.t9, inf9, rfl, rfl⟩, ⟨⟨Tryz.t24, inf24, rfl, rfl⟩, ⟨⟨Tryz.t29, inf29, rfl, rfl⟩, ⟨⟨Tryz.t34, inf34, rfl, rfl⟩, ⟨⟨Tryz.t46, inf46, rfl, rfl⟩, ⟨⟨Tryz.t47, inf47, rfl, rfl⟩, ⟨⟨Tryz.t49, inf49, rfl, rfl⟩, ⟨⟨Tryz.t50, inf50, rfl, rfl⟩, ⟨⟨Tryz.t52, inf52, rfl, rfl⟩, ⟨⟨Tryz.t55, inf55, rfl, rfl⟩, ⟨⟨Tryz.t56, inf56, rfl, rfl⟩, ⟨⟨Tryz.t58, inf58, rfl, rfl⟩, ⟨⟨Tryz.t59, inf59, rfl, rfl⟩, ⟨⟨Tryz.t61, inf61, rfl, rfl⟩, ⟨⟨Tryz.t71, inf71, rfl, rfl⟩, ⟨⟨Tryz.t95, inf95, rfl, rfl⟩, ⟨⟨Tryz.t96, inf96, rfl, rfl⟩, ⟨⟨Tryz.t98, inf98, rfl, rfl⟩, ⟨⟨Tryz.t106, inf106, rfl, rfl⟩, ⟨⟨Tryz.t107, inf107, rfl, rfl⟩, ⟨⟨Tryz.t109, inf109, rfl, rfl⟩, ⟨⟨Tryz.t131, inf131, rfl, rfl⟩, ⟨⟨Tryz.t133, inf133, rfl, rfl⟩, ⟨⟨Tryz.t149, inf149, rfl, rfl⟩, ⟨⟨Tryz.t166, inf166, rfl, rfl⟩, ⟨⟨Tryz.t180, inf180, rfl, rfl⟩, ⟨⟨Tryz.t218, inf218, rfl, rfl⟩, ⟨⟨Tryz.t220, inf220, rfl, rfl⟩, ⟨⟨Tryz.t241, inf241, rfl, rfl⟩, ⟨⟨Tryz.t244, inf244, rfl, rfl⟩, ⟨⟨Tryz.t269, inf269, rfl, rfl⟩, ⟨⟨Tryz.t280, inf280, rfl, rfl⟩, ⟨⟨Tryz.t299, inf299, rfl, rfl⟩, trivial⟩⟩⟩⟩⟩⟩⟩⟩⟩⟩⟩⟩⟩⟩⟩⟩⟩⟩⟩⟩⟩⟩⟩⟩⟩⟩⟩⟩⟩⟩⟩⟩⟩⟩⟩⟩
set_option maxRecDepth 100000 in
theorem fn_all : AllT FnQ 0 fnL := ⟨⟨Tryz.func4, fnm4⟩, ⟨⟨Tryz.func8, fnm8⟩, ⟨⟨Tryz.func12, fnm12⟩, ⟨⟨Tryz.func15, fnm15⟩, ⟨⟨Tryz.func16, fnm16⟩, ⟨⟨Tryz.func22, fnm22⟩, ⟨⟨Tryz.func23, fnm23⟩, ⟨⟨Tryz.func24, fnm24⟩, ⟨⟨Tryz.func25, fnm25⟩, ⟨⟨Tryz.func26, fnm26⟩, ⟨⟨Tryz.func40, fnm40⟩, ⟨⟨Tryz.func42, fnm42⟩, ⟨⟨Tryz.func45, fnm45⟩, ⟨⟨Tryz.func46, fnm46⟩, ⟨⟨Tryz.func51, fnm51⟩, ⟨⟨Tryz.func53, fnm53⟩, ⟨⟨Tryz.func58, fnm58⟩, ⟨⟨Tryz.func64, fnm64⟩, ⟨⟨Tryz.func65, fnm65⟩, ⟨⟨Tryz.func66, fnm66⟩, ⟨⟨Tryz.func67, fnm67⟩, ⟨⟨Tryz.func68, fnm68⟩, ⟨⟨Tryz.func69, fnm69⟩, ⟨⟨Tryz.func70, fnm70⟩, ⟨⟨Tryz.func71, fnm71⟩, ⟨⟨Tryz.func72, fnm72⟩, ⟨⟨Tryz.func73, fnm73⟩, ⟨⟨Tryz.func74, fnm74⟩, ⟨⟨Tryz.func75, fnm75⟩, ⟨⟨Tryz.func88, fnm88⟩, ⟨⟨Tryz.func91, fnm91⟩, ⟨⟨Tryz.func94, fnm94⟩, ⟨⟨Tryz.func95, fnm95⟩, ⟨⟨Tryz.func96, fnm96⟩, ⟨⟨Tryz.func104, fnm104⟩, ⟨⟨Tryz.func105, fnm105⟩, ⟨⟨Tryz.func108, fnm108⟩, ⟨⟨Tryz.func109, fnm109⟩, ⟨⟨Tryz.func113, fnm113⟩, ⟨⟨Tryz.func114, fnm114⟩, ⟨⟨Tryz.func116, fnm116⟩, ⟨⟨Tryz.func117, fnm117⟩, ⟨⟨Tryz.func118, fnm118⟩, ⟨⟨Tryz.func119, fnm119⟩, ⟨⟨Tryz.func120, fnm120⟩, ⟨⟨Tryz.func121, fnm121⟩, ⟨⟨Tryz.func122, fnm122⟩, ⟨⟨Tryz.func123, fnm123⟩, ⟨⟨Tryz.func124, fnm124⟩, ⟨⟨Tryz.func125, fnm125⟩, ⟨⟨Tryz.func126, fnm126⟩, ⟨⟨Tryz.func127, fnm127⟩, ⟨⟨Tryz.func128, fnm128⟩, ⟨⟨Tryz.func129, fnm129⟩, ⟨⟨Tryz.func130, fnm130⟩, ⟨⟨Tryz.func131, fnm131⟩, ⟨⟨Tryz.func142, fnm142⟩, ⟨⟨Tryz.func160, fnm160⟩, ⟨⟨Tryz.func161, fnm161⟩, ⟨⟨Tryz.func162, fnm162⟩, ⟨⟨Tryz.func167, fnm167⟩, ⟨⟨Tryz.func168, fnm168⟩, ⟨⟨Tryz.func170, fnm170⟩, ⟨⟨Tryz.func171, fnm171⟩, ⟨⟨Tryz.func173, fnm173⟩, ⟨⟨Tryz.func174, fnm174⟩, ⟨⟨Tryz.func175, fnm175⟩, ⟨⟨Tryz.func176, fnm176⟩, ⟨⟨Tryz.func177, fnm177⟩, ⟨⟨Tryz.func178, fnm178⟩, ⟨⟨Tryz.func179, fnm179⟩, ⟨⟨Tryz.func180, fnm180⟩, ⟨⟨Tryz.func181, fnm181⟩, ⟨⟨Tryz.func182, fnm182⟩, ⟨⟨Tryz.func183, fnm183⟩, ⟨⟨Tryz.func184, fnm184⟩, ⟨⟨Tryz.func185, fnm185⟩, ⟨⟨Tryz.func186, fnm186⟩, ⟨⟨Tryz.func187, fnm187⟩, ⟨⟨Tryz.func188, fnm188⟩, ⟨⟨Tryz.func189, fnm189⟩, ⟨⟨Tryz.func190, fnm190⟩, ⟨⟨Tryz.func191, fnm191⟩, ⟨⟨Tryz.func192, fnm192⟩, ⟨⟨Tryz.func193, fnm193⟩, ⟨⟨Tryz.func194, fnm194⟩, ⟨⟨Tryz.func197, fnm197⟩, ⟨⟨Tryz.func202, fnm202⟩, ⟨⟨Tryz.func207, fnm207⟩, ⟨⟨Tryz.func210, fnm210⟩, ⟨⟨Tryz.func211, fnm211⟩, ⟨⟨Tryz.func213, fnm213⟩, ⟨⟨Tryz.func215, fnm215⟩, ⟨⟨Tryz.func223, fnm223⟩, ⟨⟨Tryz.func225, fnm225⟩, ⟨⟨Tryz.func229, fnm229⟩, ⟨⟨Tryz.func230, fnm230⟩, ⟨⟨Tryz.func231, fnm231⟩, ⟨⟨Tryz.func234, fnm234⟩, ⟨⟨Tryz.func236, fnm236⟩, ⟨⟨Tryz.func237, fnm237⟩, ⟨⟨Tryz.func238, fnm238⟩, ⟨⟨Tryz.func239, fnm239⟩, ⟨⟨Tryz.func240, fnm240⟩, ⟨⟨Tryz.func241, fnm241⟩, ⟨⟨Tryz.func242, fnm242⟩, ⟨⟨Tryz.func243, fnm243⟩, ⟨⟨Tryz.func244, fnm244⟩, ⟨⟨Tryz.func245, fnm245⟩, ⟨⟨Tryz.func246, fnm246⟩, ⟨⟨Tryz.func247, fnm247⟩, ⟨⟨Tryz.func248, fnm248⟩, ⟨⟨Tryz.func249, fnm249⟩, ⟨⟨Tryz.func250, fnm250⟩, ⟨⟨Tryz.func251, fnm251⟩, ⟨⟨Tryz.func253, fnm253⟩, ⟨⟨Tryz.func254, fnm254⟩, ⟨⟨Tryz.func255, fnm255⟩, ⟨⟨Tryz.func264, fnm264⟩, ⟨⟨Tryz.func265, fnm265⟩, ⟨⟨Tryz.func266, fnm266⟩, ⟨⟨Tryz.func267, fnm267⟩, ⟨⟨Tryz.func268, fnm268⟩, ⟨⟨Tryz.func269, fnm269⟩, ⟨⟨Tryz.func278, fnm278⟩, ⟨⟨Tryz.func280, fnm280⟩, ⟨⟨Tryz.func281, fnm281⟩, ⟨⟨Tryz.func283, fnm283⟩, ⟨⟨Tryz.func284, fnm284⟩, ⟨⟨Tryz.func285, fnm285⟩, ⟨⟨Tryz.func286, fnm286⟩, ⟨⟨Tryz.func288, fnm288⟩, ⟨⟨Tryz.func298, fnm298⟩, ⟨⟨Tryz.func300, fnm300⟩, ⟨⟨Tryz.func301, fnm301⟩, ⟨⟨Tryz.func309, fnm309⟩, trivial⟩⟩⟩⟩⟩⟩⟩⟩⟩⟩⟩⟩⟩⟩⟩⟩⟩⟩⟩⟩⟩⟩⟩⟩⟩⟩⟩⟩⟩⟩⟩⟩⟩⟩⟩⟩⟩⟩⟩⟩⟩⟩⟩⟩⟩⟩⟩⟩⟩⟩⟩⟩⟩⟩⟩⟩⟩⟩⟩⟩⟩⟩⟩⟩⟩⟩⟩⟩⟩⟩⟩⟩⟩⟩⟩⟩⟩⟩⟩⟩⟩⟩⟩⟩⟩⟩⟩⟩⟩⟩⟩⟩⟩⟩⟩⟩⟩⟩⟩⟩⟩⟩⟩⟩⟩⟩⟩⟩⟩⟩⟩⟩⟩⟩⟩⟩⟩⟩⟩⟩⟩⟩⟩⟩⟩⟩⟩⟩⟩⟩⟩⟩⟩⟩⟩⟩
theorem mixed : Tryz.prog.follows .mixedOrders = true := by kernel_rfl
def EqQ (t : Nat) (ts : List Ty) : Prop := Tryz.prog.underlying t = some (.struct (Tryz.prog.fieldsOf t)) ∧ Tryz.prog.stoodInHeld t = false ∧ Tryz.prog.eqGuardType Tryz.prog.depth t = false ∧ eqFsB Tryz.prog 0 (Tryz.prog.fieldsOf t).toList ts = true
theorem eqs_all : AllT EqQ 0 eqL := ⟨⟨by kernel_rfl, by kernel_rfl, by kernel_rfl, by kernel_rfl⟩, trivial⟩
theorem ext_cons {a : Nat} {l : List Nat} {n : Nat} (h : lhas (a :: l) n = true) : n = a ∨ lhas l n = true := by
  have h' : (bif Nat.beq a n then true else lhas l n) = true := h
  cases hb : Nat.beq a n with
  | true => exact .inl (Nat.eq_of_beq_eq_true hb).symm
  | false => rw [hb, cond_false] at h'; exact .inr h'
theorem ext_all : ∀ f, lhas extL f = true → ∃ fn c, Tryz.prog.funcs[f]? = some fn ∧ (fn.name == "runtime.NumGoroutine") = false ∧ fn.body = some c := by
  intro f h
  rcases ext_cons h with rfl | h
  · exact ⟨Tryz.f252, _, by kernel_rfl, by kernel_rfl, rfl⟩
  cases h
theorem ok : TabOK Γ Tryz.prog where
  und t d h := by have := all_at _ _ und_all t d h; rw [Nat.zero_add] at this; exact this
  info t z n b h := by
    obtain ⟨i, h1, h2, h3, h4, h5, _⟩ := all_at _ _ info_all t (z, n, b) h
    rw [Nat.zero_add] at h1
    exact ⟨i, h1, h2, h3, h4, h5⟩
  zero1 t z n b h := by
    obtain ⟨i, _, _, _, _, _, h6⟩ := all_at _ _ info_all t (z, n, b) h
    exact List.all_eq_true.1 h6
  fn f fn h := by
    obtain ⟨h1, h2⟩ := all_at _ _ fn_all f fn h
    rw [Nat.zero_add] at h1
    exact ⟨h1, h2⟩
  ty t τ h := by
    obtain ⟨i, h1, h2, h3⟩ := all_at _ _ ty_all t τ h
    rw [Nat.zero_add] at h1
    exact ⟨i, h1, h2, Nat.le_of_ble_eq_true h3⟩
  mixed := mixed
  eqs t ts h := by have := all_at _ _ eqs_all t ts h; rw [Nat.zero_add] at this; exact this
  ext := ext_all
end Go.Proofs.GR.T

