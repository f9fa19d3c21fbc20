/-
  No statement is proved here: the tables of the program, and that they tell it.
  No condition.
-/
import Derived.Test.YtkkibaihacgliaaDoorProg
import Derived.Test.YtkkibaihacgliaaDoorRd
import Derived.KernelRfl
namespace Go.Proofs.GR.T
open Go.Proofs
noncomputable def undL : List (Option TypeDesc) := [none, none, some (.int .i64), some (.int .i64), some (.bool), some (.int .u8), none, none, none, some (.string), none, none, none, none, none, none, none, none, none, none, none, some (.int .i32), none, some (.struct #[⟨ "Table", 9, 0, false, "", "", 0⟩, ⟨ "Index", 3, 1, false, "", "", 16⟩, ⟨ "Low", 9, 2, false, "", "", 24⟩, ⟨ "High", 9, 3, false, "", "", 40⟩, ⟨ "Score", 3, 4, false, "", "", 56⟩]), some (.slice 86), none, none, none, none, some (.struct #[⟨ "Table", 9, 0, false, "", "", 0⟩, ⟨ "Index", 3, 1, false, "", "", 16⟩, ⟨ "Low", 9, 2, false, "", "", 24⟩, ⟨ "High", 9, 3, false, "", "", 40⟩, ⟨ "Score", 3, 4, false, "", "", 56⟩]), none, some (.slice 93), none, none, none, some (.slice 146), none, some (.struct #[⟨ "Table", 9, 0, false, "", "", 0⟩, ⟨ "Column", 3, 1, false, "", "", 16⟩, ⟨ "Steps", 35, 2, false, "", "", 24⟩]), none, none, some (.slice 107), none, some (.struct #[⟨ "Table", 9, 0, false, "", "", 0⟩, ⟨ "Column", 3, 1, false, "", "", 16⟩, ⟨ "Steps", 40, 2, false, "", "", 24⟩]), none, none, none, none, some (.struct #[⟨ "Kind", 3, 0, false, "", "", 0⟩, ⟨ "N", 3, 1, false, "", "", 8⟩, ⟨ "T", 9, 2, false, "", "", 16⟩]), some (.slice 50), none, some (.struct #[⟨ "Kind", 3, 0, false, "", "", 0⟩, ⟨ "N", 3, 1, false, "", "", 8⟩, ⟨ "Name", 9, 2, false, "", "", 16⟩, ⟨ "Of", 9, 3, false, "", "", 32⟩, ⟨ "Val", 47, 4, false, "", "", 48⟩, ⟨ "Kids", 48, 7, false, "", "", 80⟩]), none, some (.slice 9), none, none, some (.struct #[⟨ "Kind", 3, 0, false, "", "", 0⟩, ⟨ "N", 3, 1, false, "", "", 8⟩, ⟨ "T", 9, 2, false, "", "", 16⟩]), some (.slice 58), none, some (.struct #[⟨ "Kind", 3, 0, false, "", "", 0⟩, ⟨ "N", 3, 1, false, "", "", 8⟩, ⟨ "Name", 9, 2, false, "", "", 16⟩, ⟨ "Of", 9, 3, false, "", "", 32⟩, ⟨ "Val", 55, 4, false, "", "", 48⟩, ⟨ "Kids", 56, 7, false, "", "", 80⟩]), none, none, none, none, none, none, some (.slice 165), none, some (.struct #[⟨ "Code", 3, 0, false, "", "", 0⟩, ⟨ "Place", 3, 1, false, "", "", 8⟩, ⟨ "Count", 3, 2, false, "", "", 16⟩, ⟨ "Fired", 52, 3, false, "", "", 24⟩, ⟨ "Rows", 65, 4, false, "", "", 48⟩]), none, none, some (.slice 166), none, some (.struct #[⟨ "Code", 3, 0, false, "", "", 0⟩, ⟨ "Place", 3, 1, false, "", "", 8⟩, ⟨ "Count", 3, 2, false, "", "", 16⟩, ⟨ "Fired", 52, 3, false, "", "", 24⟩, ⟨ "Rows", 70, 4, false, "", "", 48⟩]), none, none, none, some (.slice 129), none, none, none, none, none, none, some (.slice 191), some (.slice 193), none, some (.struct #[⟨ "Name", 9, 0, false, "", "", 0⟩, ⟨ "Columns", 83, 1, false, "", "", 16⟩, ⟨ "Key", 3, 2, false, "", "", 40⟩, ⟨ "Indexes", 84, 3, false, "", "", 48⟩]), none, none, none, some (.slice 105), some (.slice 97), none, some (.struct #[⟨ "Name", 9, 0, false, "", "", 0⟩, ⟨ "Columns", 90, 1, false, "", "", 16⟩, ⟨ "Key", 3, 2, false, "", "", 40⟩, ⟨ "Indexes", 91, 3, false, "", "", 48⟩]), none, some (.slice 3), none, some (.struct #[⟨ "Name", 9, 0, false, "", "", 0⟩, ⟨ "Columns", 95, 1, false, "", "", 16⟩]), none, none, none, none, none, none, none, some (.struct #[⟨ "Name", 9, 0, false, "", "", 0⟩, ⟨ "Type", 3, 1, false, "", "", 16⟩, ⟨ "Null", 4, 2, false, "", "", 24⟩]), none, some (.struct #[⟨ "Key", 9, 0, false, "", "", 0⟩, ⟨ "Value", 9, 1, false, "", "", 16⟩]), none, none, none, none, none, none, none, none, none, none, none, none, none, none, none, none, none, none, none, none, none, some (.struct #[⟨ "Kind", 3, 0, false, "", "", 0⟩, ⟨ "Text", 9, 1, false, "", "", 8⟩, ⟨ "Val", 55, 2, false, "", "", 24⟩, ⟨ "At", 3, 5, false, "", "", 56⟩]), none, none, none, none, none, none, some (.slice 5), none, none, none, none, none, some (.int .u64), none, none, none, some (.struct #[⟨ "Key", 9, 0, false, "", "", 0⟩, ⟨ "Value", 9, 1, false, "", "", 16⟩]), none, none, none, none, none, none, none, none, none, none, none, none, some (.slice 162), none, none, some (.struct #[⟨ "table", 9, 0, false, "", "loop.example/g00208/impl", 0⟩, ⟨ "of", 9, 1, false, "", "loop.example/g00208/impl", 16⟩, ⟨ "place", 3, 2, false, "", "loop.example/g00208/impl", 32⟩]), none, none, some (.slice 47), some (.slice 55), none, none, some (.slice 305), none, some (.struct #[⟨ "Fields", 169, 0, false, "", "", 0⟩, ⟨ "Rows", 70, 1, false, "", "", 24⟩]), none, none, none, none, none, none, none, none, some (.pointer 182), none, some (.struct #[⟨ "t", 9, 0, false, "", "loop.example/g00208/spec", 0⟩, ⟨ "at", 3, 1, false, "", "loop.example/g00208/spec", 16⟩, ⟨ "out", 76, 2, false, "", "loop.example/g00208/spec", 24⟩, ⟨ "code", 3, 3, false, "", "loop.example/g00208/spec", 48⟩, ⟨ "place", 3, 4, false, "", "loop.example/g00208/spec", 56⟩]), none, none, none, none, none, none, none, none, some (.struct #[⟨ "Name", 9, 0, false, "", "", 0⟩, ⟨ "Type", 3, 1, false, "", "", 16⟩, ⟨ "Null", 4, 2, false, "", "", 24⟩]), none, some (.struct #[⟨ "Name", 9, 0, false, "", "", 0⟩, ⟨ "Columns", 95, 1, false, "", "", 16⟩]), none, none, none, none, none, none, none, none, none, none, none, none, none, none, none, none, none, none, none, some (.pointer 215), none, some (.struct #[⟨ "addr", 213, 0, false, "", "strings", 0⟩, ⟨ "buf", 136, 1, false, "", "strings", 8⟩]), none, none, none, none, none, none, none, none, none, none, none, none, none, none, none, none, none, none, none, none, none, none, none, some (.pointer 5), none, none, none, none, none, none, none, none, none, none, none, some (.pointer 266), none, none, none, none, some (.int .u64), none, none, none, none, none, none, none, none, none, some (.struct #[⟨ "Func", 9, 0, false, "", "", 0⟩, ⟨ "Num", 9, 1, false, "", "", 16⟩, ⟨ "Err", 218, 2, false, "", "", 32⟩]), none, none, none, none, none, none, none, some (.int .u32), none, none, some (.pointer 279), none, some (.struct #[⟨ "s", 9, 0, false, "", "errors", 0⟩]), none, none, none, some (.struct #[⟨ "lo", 5, 0, false, "", "unicode/utf8", 0⟩, ⟨ "hi", 5, 1, false, "", "unicode/utf8", 1⟩]), none, none, none, none, none, none, none, none, none, none, none, none, none, none, none, none, none, none, none, none, none, some (.struct #[⟨ "Of", 9, 0, false, "", "", 0⟩, ⟨ "Name", 9, 1, false, "", "", 16⟩, ⟨ "Type", 3, 2, false, "", "", 32⟩])]
noncomputable def infoL : List (Option (Value × Nat × Nat)) := [none, none, some ((.int .i64 0, 1, 8)), some ((.int .i64 0, 1, 8)), some ((.bool false, 1, 1)), some ((.int .u8 0, 1, 1)), none, none, none, some ((.string ByteArray.empty, 1, 16)), none, none, none, none, none, none, none, none, none, none, none, some ((.int .i32 0, 1, 4)), none, some ((.agg #[.string ByteArray.empty, .int .i64 0, .string ByteArray.empty, .string ByteArray.empty, .int .i64 0], 5, 64)), some ((.slice none 0 0, 1, 24)), none, none, none, none, some ((.agg #[.string ByteArray.empty, .int .i64 0, .string ByteArray.empty, .string ByteArray.empty, .int .i64 0], 5, 64)), none, some ((.slice none 0 0, 1, 24)), none, none, none, some ((.slice none 0 0, 1, 24)), none, some ((.agg #[.string ByteArray.empty, .int .i64 0, .slice none 0 0], 3, 48)), none, none, some ((.slice none 0 0, 1, 24)), none, some ((.agg #[.string ByteArray.empty, .int .i64 0, .slice none 0 0], 3, 48)), none, none, none, none, some ((.agg #[.int .i64 0, .int .i64 0, .string ByteArray.empty], 3, 32)), some ((.slice none 0 0, 1, 24)), none, some ((.agg #[.int .i64 0, .int .i64 0, .string ByteArray.empty, .string ByteArray.empty, .int .i64 0, .int .i64 0, .string ByteArray.empty, .slice none 0 0], 8, 104)), none, some ((.slice none 0 0, 1, 24)), none, none, some ((.agg #[.int .i64 0, .int .i64 0, .string ByteArray.empty], 3, 32)), some ((.slice none 0 0, 1, 24)), none, some ((.agg #[.int .i64 0, .int .i64 0, .string ByteArray.empty, .string ByteArray.empty, .int .i64 0, .int .i64 0, .string ByteArray.empty, .slice none 0 0], 8, 104)), none, none, none, none, none, none, some ((.slice none 0 0, 1, 24)), none, some ((.agg #[.int .i64 0, .int .i64 0, .int .i64 0, .slice none 0 0, .slice none 0 0], 5, 72)), none, none, some ((.slice none 0 0, 1, 24)), none, some ((.agg #[.int .i64 0, .int .i64 0, .int .i64 0, .slice none 0 0, .slice none 0 0], 5, 72)), none, none, none, some ((.slice none 0 0, 1, 24)), none, none, none, none, none, none, some ((.slice none 0 0, 1, 24)), some ((.slice none 0 0, 1, 24)), none, some ((.agg #[.string ByteArray.empty, .slice none 0 0, .int .i64 0, .slice none 0 0], 4, 72)), none, none, none, some ((.slice none 0 0, 1, 24)), some ((.slice none 0 0, 1, 24)), none, some ((.agg #[.string ByteArray.empty, .slice none 0 0, .int .i64 0, .slice none 0 0], 4, 72)), none, some ((.slice none 0 0, 1, 24)), none, some ((.agg #[.string ByteArray.empty, .slice none 0 0], 2, 40)), none, none, none, none, none, none, none, some ((.agg #[.string ByteArray.empty, .int .i64 0, .bool false], 3, 32)), none, some ((.agg #[.string ByteArray.empty, .string ByteArray.empty], 2, 32)), none, none, none, none, none, none, none, none, none, none, none, none, none, none, none, none, none, none, none, none, none, some ((.agg #[.int .i64 0, .string ByteArray.empty, .int .i64 0, .int .i64 0, .string ByteArray.empty, .int .i64 0], 6, 64)), none, none, none, none, none, none, some ((.slice none 0 0, 1, 24)), none, none, none, none, none, some ((.int .u64 0, 1, 8)), none, none, none, some ((.agg #[.string ByteArray.empty, .string ByteArray.empty], 2, 32)), none, none, none, none, none, none, none, none, none, none, none, none, some ((.slice none 0 0, 1, 24)), none, none, some ((.agg #[.string ByteArray.empty, .string ByteArray.empty, .int .i64 0], 3, 40)), none, none, some ((.slice none 0 0, 1, 24)), some ((.slice none 0 0, 1, 24)), none, none, some ((.slice none 0 0, 1, 24)), none, some ((.agg #[.slice none 0 0, .slice none 0 0], 2, 48)), none, none, none, none, none, none, none, none, some ((.pointer none, 1, 8)), none, some ((.agg #[.string ByteArray.empty, .int .i64 0, .slice none 0 0, .int .i64 0, .int .i64 0], 5, 64)), none, none, none, none, none, none, none, none, some ((.agg #[.string ByteArray.empty, .int .i64 0, .bool false], 3, 32)), none, some ((.agg #[.string ByteArray.empty, .slice none 0 0], 2, 40)), none, none, none, none, none, none, none, none, none, none, none, none, none, none, none, none, none, none, none, some ((.pointer none, 1, 8)), none, some ((.agg #[.pointer none, .slice none 0 0], 2, 32)), none, none, none, none, none, none, none, none, none, none, none, none, none, none, none, none, none, none, none, none, none, none, none, some ((.pointer none, 1, 8)), none, none, none, none, none, none, none, none, none, none, none, some ((.pointer none, 1, 8)), none, none, none, none, some ((.int .u64 0, 1, 8)), none, none, none, none, none, none, none, none, none, none, none, none, none, none, none, none, none, some ((.int .u32 0, 1, 4)), none, none, some ((.pointer none, 1, 8)), none, some ((.agg #[.string ByteArray.empty], 1, 16)), none, none, none, some ((.agg #[.int .u8 0, .int .u8 0], 2, 2)), none, none, none, none, none, none, none, none, none, none, none, none, none, none, none, none, none, none, none, none, none, some ((.agg #[.string ByteArray.empty, .string ByteArray.empty, .int .i64 0], 3, 40))]
noncomputable def tyL : List (Option Ty) := [none, none, some ((.int .i64)), some ((.int .i64)), some (.bool), some ((.int .u8)), none, none, none, some (.str), none, none, none, none, none, none, none, none, none, none, none, some ((.int .i32)), none, some ((.pair .str (.pair (.int .i64) (.pair .str (.pair .str (.int .i64)))))), some ((.slice (.pair .str (.pair (.slice (.pair .str (.pair (.int .i64) .bool))) (.pair (.int .i64) (.slice (.pair .str (.slice (.int .i64))))))))), none, none, none, none, some ((.pair .str (.pair (.int .i64) (.pair .str (.pair .str (.int .i64)))))), none, some ((.slice (.pair .str (.pair (.slice (.pair .str (.pair (.int .i64) .bool))) (.pair (.int .i64) (.slice (.pair .str (.slice (.int .i64))))))))), none, none, none, some ((.slice (.pair .str .str))), none, some ((.pair .str (.pair (.int .i64) (.slice (.pair .str .str))))), none, none, some ((.slice (.pair .str .str))), none, some ((.pair .str (.pair (.int .i64) (.slice (.pair .str .str))))), none, none, none, none, some ((.pair (.int .i64) (.pair (.int .i64) .str))), some ((.slice (.rose (.pair (.int .i64) (.pair (.int .i64) (.pair .str (.pair .str (.pair (.int .i64) (.pair (.int .i64) .str))))))))), none, some ((.rose (.pair (.int .i64) (.pair (.int .i64) (.pair .str (.pair .str (.pair (.int .i64) (.pair (.int .i64) .str)))))))), none, some ((.slice .str)), none, none, some ((.pair (.int .i64) (.pair (.int .i64) .str))), some ((.slice (.rose (.pair (.int .i64) (.pair (.int .i64) (.pair .str (.pair .str (.pair (.int .i64) (.pair (.int .i64) .str))))))))), none, some ((.rose (.pair (.int .i64) (.pair (.int .i64) (.pair .str (.pair .str (.pair (.int .i64) (.pair (.int .i64) .str)))))))), none, none, none, none, none, none, some ((.slice (.slice (.pair (.int .i64) (.pair (.int .i64) .str))))), none, some ((.pair (.int .i64) (.pair (.int .i64) (.pair (.int .i64) (.pair (.slice .str) (.slice (.slice (.pair (.int .i64) (.pair (.int .i64) .str))))))))), none, none, some ((.slice (.slice (.pair (.int .i64) (.pair (.int .i64) .str))))), none, some ((.pair (.int .i64) (.pair (.int .i64) (.pair (.int .i64) (.pair (.slice .str) (.slice (.slice (.pair (.int .i64) (.pair (.int .i64) .str))))))))), none, none, none, some ((.slice (.pair (.int .i64) (.pair .str (.pair (.pair (.int .i64) (.pair (.int .i64) .str)) (.int .i64)))))), none, none, none, none, none, none, some ((.slice (.pair .str (.pair (.int .i64) .bool)))), some ((.slice (.pair .str (.slice (.int .i64))))), none, some ((.pair .str (.pair (.slice (.pair .str (.pair (.int .i64) .bool))) (.pair (.int .i64) (.slice (.pair .str (.slice (.int .i64)))))))), none, none, none, some ((.slice (.pair .str (.pair (.int .i64) .bool)))), some ((.slice (.pair .str (.slice (.int .i64))))), none, some ((.pair .str (.pair (.slice (.pair .str (.pair (.int .i64) .bool))) (.pair (.int .i64) (.slice (.pair .str (.slice (.int .i64)))))))), none, some ((.slice (.int .i64))), none, some ((.pair .str (.slice (.int .i64)))), none, none, none, none, none, none, none, some ((.pair .str (.pair (.int .i64) .bool))), none, some ((.pair .str .str)), none, none, none, none, none, none, none, none, none, none, none, none, none, none, none, none, none, none, none, none, none, some ((.pair (.int .i64) (.pair .str (.pair (.pair (.int .i64) (.pair (.int .i64) .str)) (.int .i64))))), none, none, none, none, none, none, some ((.slice (.int .u8))), none, none, none, none, none, some ((.int .u64)), none, none, none, some ((.pair .str .str)), none, none, none, none, none, none, none, none, none, none, none, none, some ((.slice (.pair .str (.pair .str (.int .i64))))), none, none, some ((.pair .str (.pair .str (.int .i64)))), none, none, some ((.slice (.pair (.int .i64) (.pair (.int .i64) .str)))), some ((.slice (.pair (.int .i64) (.pair (.int .i64) .str)))), none, none, some ((.slice (.pair .str (.pair .str (.int .i64))))), none, some ((.pair (.slice (.pair .str (.pair .str (.int .i64)))) (.slice (.slice (.pair (.int .i64) (.pair (.int .i64) .str)))))), none, none, none, none, none, none, none, none, none, none, some ((.pair .str (.pair (.int .i64) (.pair (.slice (.pair (.int .i64) (.pair .str (.pair (.pair (.int .i64) (.pair (.int .i64) .str)) (.int .i64))))) (.pair (.int .i64) (.int .i64)))))), none, none, none, none, none, none, none, none, some ((.pair .str (.pair (.int .i64) .bool))), none, some ((.pair .str (.slice (.int .i64)))), none, none, none, none, none, none, none, none, none, none, none, none, none, none, none, none, none, none, none, none, none, none, none, none, none, none, none, none, none, none, none, none, none, none, none, none, none, none, none, none, none, none, none, none, none, none, none, none, none, none, none, none, none, none, none, none, none, none, none, none, none, none, some ((.int .u64)), none, none, none, none, none, none, none, none, none, none, none, none, none, none, none, none, none, some ((.int .u32)), none, none, none, none, some (.str), none, none, none, some ((.pair (.int .u8) (.int .u8))), none, none, none, none, none, none, none, none, none, none, none, none, none, none, none, none, none, none, none, none, none, some ((.pair .str (.pair .str (.int .i64))))]
noncomputable def eqL : List (Option (List Ty)) := [none, none, none, none, none, none, none, none, none, none, none, none, none, none, none, none, none, none, none, none, none, none, none, none, none, none, none, none, none, none, none, none, none, none, none, none, none, none, none, none, none, none, none, none, none, none, none, none, none, none, none, none, none, none, none, some ([.int .i64, .int .i64, .str]), none, none, none, none, none, none, none, none, none, none, none, none, none, none, none, none, none, none, none, none, none, none, none, none, none, none, none, none, none, none, none, none, none, none, none, none, none, none, none, none, none, none, none, none, none, none, none, none, none, none, none, none, none, none, none, none, none, none, none, none, none, none, none, none, none, none, none, none, none, none, none, none, none, none, none, none, none, none, none, none, none, none, none, none, none, none, none, none, none, none, none, none, none, none, none, none, none, none, none, none, none, none, none, none, none, none, none, none, none, none, none, none, none, none, none, none, none, none, none, none, none, none, none, none, none, none, none, none, none, none, none, none, none, none, none, none, none, none, none, none, none, none, none, none, none, none, none, none, none, none, none, none, none, none, none, none, none, none, none, none, none, none, none, none, none, none, none, none, none, none, none, none, none, none, none, none, none, none, none, none, none, none, none, none, none, none, none, none, none, none, none, none, none, none, none, none, none, none, none, none, none, none, none, none, none, none, none, none, none, none, none, none, none, none, none, none, none, none, none, none, none, none, none, none, none, none, none, none, none, none, none, none, none, none, none, none, none, none, none, none, none, none, none, none, none, none, none, none, none, none]
noncomputable def fnL : List (Option Func) := [none, none, none, some Tryd.f3, some Tryd.f4, some Tryd.f5, some Tryd.f6, some Tryd.f7, some Tryd.f8, some Tryd.f9, some Tryd.f10, some Tryd.f11, some Tryd.f12, some Tryd.f13, some Tryd.f14, some Tryd.f15, some Tryd.f16, some Tryd.f17, some Tryd.f18, some Tryd.f19, some Tryd.f20, some Tryd.f21, some Tryd.f22, some Tryd.f23, some Tryd.f24, some Tryd.f25, some Tryd.f26, some Tryd.f27, some Tryd.f28, some Tryd.f29, some Tryd.f30, some Tryd.f31, some Tryd.f32, some Tryd.f33, some Tryd.f34, some Tryd.f35, some Tryd.f36, some Tryd.f37, some Tryd.f38, some Tryd.f39, some Tryd.f40, some Tryd.f41, some Tryd.f42, some Tryd.f43, some Tryd.f44, some Tryd.f45, some Tryd.f46, some Tryd.f47, some Tryd.f48, some Tryd.f49, some Tryd.f50, some Tryd.f51, some Tryd.f52, some Tryd.f53, some Tryd.f54, some Tryd.f55, some Tryd.f56, some Tryd.f57, some Tryd.f58, some Tryd.f59, some Tryd.f60, some Tryd.f61, some Tryd.f62, some Tryd.f63, some Tryd.f64, some Tryd.f65, some Tryd.f66, some Tryd.f67, some Tryd.f68, some Tryd.f69, some Tryd.f70, some Tryd.f71, some Tryd.f72, some Tryd.f73, some Tryd.f74, some Tryd.f75, some Tryd.f76, some Tryd.f77, some Tryd.f78, some Tryd.f79, some Tryd.f80, some Tryd.f81, some Tryd.f82, some Tryd.f83, some Tryd.f84, some Tryd.f85, some Tryd.f86, some Tryd.f87, some Tryd.f88, some Tryd.f89, some Tryd.f90, some Tryd.f91, some Tryd.f92, some Tryd.f93, some Tryd.f94, some Tryd.f95, some Tryd.f96, some Tryd.f97, some Tryd.f98, some Tryd.f99, some Tryd.f100, some Tryd.f101, some Tryd.f102, some Tryd.f103, some Tryd.f104, some Tryd.f105, some Tryd.f106, some Tryd.f107, some Tryd.f108, some Tryd.f109, some Tryd.f110, some Tryd.f111, some Tryd.f112, some Tryd.f113, some Tryd.f114, some Tryd.f115, some Tryd.f116, some Tryd.f117, some Tryd.f118, some Tryd.f119, some Tryd.f120, some Tryd.f121, some Tryd.f122, some Tryd.f123, some Tryd.f124, some Tryd.f125, some Tryd.f126, some Tryd.f127, some Tryd.f128, some Tryd.f129, some Tryd.f130, some Tryd.f131, some Tryd.f132, some Tryd.f133, some Tryd.f134, some Tryd.f135, some Tryd.f136, some Tryd.f137, some Tryd.f138, some Tryd.f139, some Tryd.f140, some Tryd.f141, some Tryd.f142, some Tryd.f143, some Tryd.f144, some Tryd.f145, some Tryd.f146, some Tryd.f147, some Tryd.f148, some Tryd.f149, some Tryd.f150, some Tryd.f151, some Tryd.f152, some Tryd.f153, some Tryd.f154, some Tryd.f155, some Tryd.f156, some Tryd.f157, some Tryd.f158, some Tryd.f159, some Tryd.f160, some Tryd.f161, some Tryd.f162, some Tryd.f163, some Tryd.f164, some Tryd.f165, some Tryd.f166, some Tryd.f167, some Tryd.f168, some Tryd.f169, some Tryd.f170, some Tryd.f171, some Tryd.f172, some Tryd.f173, some Tryd.f174, some Tryd.f175, some Tryd.f176, some Tryd.f177, some Tryd.f178, some Tryd.f179, some Tryd.f180, some Tryd.f181, some Tryd.f182, some Tryd.f183, some Tryd.f184, some Tryd.f185, some Tryd.f186, some Tryd.f187, some Tryd.f188, some Tryd.f189, some Tryd.f190, some Tryd.f191, some Tryd.f192, some Tryd.f193, some Tryd.f194, none, some Tryd.f196, some Tryd.f197, some Tryd.f198, some Tryd.f199, some Tryd.f200, some Tryd.f201, some Tryd.f202, some Tryd.f203, some Tryd.f204, some Tryd.f205, some Tryd.f206, some Tryd.f207, some Tryd.f208, some Tryd.f209, some Tryd.f210, some Tryd.f211, some Tryd.f212, some Tryd.f213, some Tryd.f214, some Tryd.f215, some Tryd.f216, some Tryd.f217, some Tryd.f218, some Tryd.f219, some Tryd.f220, some Tryd.f221, some Tryd.f222, some Tryd.f223, none, some Tryd.f225, some Tryd.f226, some Tryd.f227, some Tryd.f228, some Tryd.f229, some Tryd.f230, some Tryd.f231, some Tryd.f232, some Tryd.f233, some Tryd.f234, some Tryd.f235, some Tryd.f236, some Tryd.f237, none, some Tryd.f239, some Tryd.f240, some Tryd.f241, some Tryd.f242, some Tryd.f243, some Tryd.f244, some Tryd.f245, some Tryd.f246, some Tryd.f247, some Tryd.f248, some Tryd.f249, some Tryd.f250, some Tryd.f251, some Tryd.f252, some Tryd.f253, some Tryd.f254, some Tryd.f255, some Tryd.f256, some Tryd.f257, some Tryd.f258, some Tryd.f259, some Tryd.f260, some Tryd.f261, some Tryd.f262, some Tryd.f263, some Tryd.f264, some Tryd.f265, some Tryd.f266, some Tryd.f267, some Tryd.f268, some Tryd.f269, some Tryd.f270]
noncomputable def modeL : List (Nat × List Mode) := [(26, [.wr]), (27, [.wr]), (37, [.wr]), (65, [.wr]), (117, [.tk]), (137, [.wr]), (184, [.wr]), (187, [.wr]), (188, [.wr]), (189, [.wr]), (190, [.wr]), (191, [.wr]), (216, [.wr]), (217, [.wr]), (231, [.wr]), (244, [.wr]), (245, [.tk])]
noncomputable def liveL : List (Nat × List (Nat × List Nat)) := [(9, [(0, [0, 1, 5])]), (12, [(0, [0, 3, 4])]), (14, [(0, [0, 1, 5])]), (16, [(0, [2, 6])]), (24, [(0, [0, 1, 5])]), (27, [(0, [0, 1, 5])]), (28, [(0, [0, 1, 5])]), (30, [(0, [0, 3, 6])]), (35, [(1, [0, 5, 6])]), (36, [(0, [0, 1, 5])]), (37, [(0, [0, 1, 5])]), (38, [(0, [0, 1, 5])]), (40, [(0, [0, 3])]), (42, [(0, [0, 3, 4])]), (43, [(0, [0, 1, 5])]), (45, [(0, [0, 5, 6, 7])]), (48, [(0, [0, 3, 10, 11])]), (50, [(0, [0, 1, 5])]), (52, [(0, [0, 3, 4])]), (54, [(0, [0, 1, 5])]), (56, [(0, [0, 1, 5])]), (57, [(1, [1, 3])]), (58, [(0, [1, 3, 4])]), (60, [(0, [0, 3, 4])]), (62, [(0, [3, 8, 9, 10])]), (64, [(0, [0, 1, 5])]), (65, [(0, [0, 1, 5])]), (66, [(0, [0, 3])]), (67, [(0, [0, 1, 5])]), (68, [(0, [0, 1, 5])]), (69, [(2, [0, 1, 5, 6]), (0, [0, 1, 5])]), (71, [(0, [3, 5, 6])]), (72, [(0, [0, 3, 4])]), (73, [(0, [0, 3, 4])]), (78, [(0, [0, 5, 6])]), (79, [(1, [5, 38, 39, 40])]), (80, [(0, [0, 1, 5])]), (81, [(0, [0, 5])]), (83, [(1, [0, 1, 4, 145, 146, 147])]), (85, [(0, [0, 1, 5])]), (86, [(0, [0, 1, 5])]), (87, [(2, [1, 5]), (0, [1, 3])]), (88, [(0, [0, 3, 4])]), (89, [(0, [0, 3, 4])]), (90, [(2, [1, 64, 65, 66]), (0, [1, 34, 35, 36])]), (91, [(0, [0, 1, 2, 8, 9, 10])]), (94, [(0, [0, 1, 5])]), (95, [(0, [0, 1, 5])]), (101, [(0, [1, 2, 3, 7])]), (102, [(2, [1, 3, 4, 5, 6]), (0, [1, 3, 4, 5, 6])]), (103, [(0, [0, 3])]), (105, [(0, [1, 2, 5])]), (106, [(0, [0, 1, 5])]), (114, [(0, [0, 1, 2, 8])]), (115, [(0, [3, 8, 9, 10])]), (116, [(0, [1, 3, 18, 19, 20])]), (117, [(0, [0, 7, 8, 9])]), (118, [(0, [0, 1, 5])]), (120, [(0, [0, 3])]), (123, [(0, [1, 3, 4])]), (124, [(0, [0, 3, 4])]), (130, [(0, [0, 1, 7, 8])]), (135, [(2, [3, 6, 10, 11, 12, 17, 18, 19]), (0, [3, 10, 11, 12])]), (136, [(0, [0, 1, 5])]), (137, [(1, [0, 3, 4])]), (139, [(0, [0, 1, 2, 7])]), (141, [(0, [0, 1, 6, 7])]), (142, [(0, [0, 4, 5])]), (148, [(0, [0, 1, 5])]), (149, [(0, [2, 3, 5])]), (150, [(0, [0, 1, 5])]), (160, [(0, [0, 1, 7, 8])]), (161, [(1, [1, 3])]), (165, [(0, [3, 7, 8, 9])]), (168, [(0, [0, 1, 7, 8])]), (171, [(0, [0, 4])]), (174, [(0, [1, 14, 15, 16])]), (177, [(0, [0, 3, 4])]), (178, [(0, [0, 1, 7, 8])]), (179, [(0, [0, 1, 7, 8])]), (185, [(3, [1, 8, 63, 64, 65]), (1, [0, 1, 5, 39, 40, 41])]), (187, [(0, [0, 2])]), (188, [(0, [0, 2])]), (198, [(0, [0, 1, 5])]), (199, [(0, [0, 3, 4])]), (200, [(0, [0, 1, 7, 8])]), (202, [(0, [0, 5, 6, 7])]), (205, [(0, [0, 1, 7, 8])]), (207, [(0, [0, 1, 5])]), (209, [(0, [0, 1, 7, 8])]), (212, [(1, [1, 3, 4])]), (218, [(0, [0, 4, 5, 6])]), (219, [(0, [0, 6, 7])]), (220, [(0, [0, 4, 5])]), (221, [(0, [5, 6, 47, 48, 49])]), (226, [(0, [0, 1, 7, 8])]), (239, [(0, [0, 1, 5])]), (241, [(0, [0, 1, 7, 8])]), (244, [(0, [0, 1, 4])]), (245, [(0, [0, 1, 3, 4, 10, 11, 12, 13, 14, 15, 16]), (2, [0, 1, 3, 4, 10, 11, 12, 13, 17])]), (246, [(0, [0, 1, 2, 10, 11, 52, 53]), (2, [0, 2, 10, 11, 77, 78])]), (248, [(3, [1, 8, 9, 10, 11, 12, 13, 99, 100, 101])]), (251, [(0, [2, 4])]), (254, [(1, [0, 1, 5, 6, 7, 8, 9, 10])]), (261, [(0, [0, 3, 4, 5])]), (266, [(2, [0, 1, 5, 6, 7, 8, 10]), (0, [0, 1, 5, 6, 7, 8, 9])]), (270, [(2, [4, 6, 7, 8]), (0, [0, 4, 5])])]
noncomputable def outsL : List (Nat × List Bool) := [(12, [true]), (17, [true]), (21, [true, false]), (22, [true]), (23, [true, false]), (31, [true]), (34, [true, false, false]), (35, [true, false, false]), (44, [true]), (52, [true]), (58, [true]), (60, [true]), (62, [true]), (72, [true]), (73, [true]), (81, [true, false, false]), (88, [true]), (89, [true]), (116, [true]), (117, [true]), (124, [true]), (144, [true]), (152, [true]), (162, [true]), (167, [true]), (172, [true]), (181, [true]), (199, [true]), (210, [true]), (234, [true]), (235, [true]), (236, [true]), (237, [true]), (245, [true, false]), (247, [true])]
def find {α : Type} (d : α) : List (Nat × α) → Nat → α
  | [], _ => d
  | p :: l, n => bif Nat.beq p.1 n then p.2 else find d l n
def join {α : Type} : Option (Option α) → Option α
  | some x => x
  | none => none
def extL : List Nat := [195]
noncomputable def Γ : Tab := { fn := fun f => join (lat? fnL f), und := fun t => join (lat? undL t), info := fun t => join (lat? infoL t), ty := fun t => join (lat? tyL t), mode := find [] modeL, live := fun f b => find [] (find [] liveL f) b, outs := find [] outsL, extb := fun f => lhas extL f, eqs := fun t => join (lat? eqL t), gls := [(3, intAt0)] }
end Go.Proofs.GR.T

namespace Go.Proofs.GR.T
open Go.Proofs
def AllT {α : Type} (Q : Nat → α → Prop) : Nat → List (Option α) → Prop
  | _, [] => True
  | i, none :: r => AllT Q (i + 1) r
  | i, some d :: r => Q i d ∧ AllT Q (i + 1) r
theorem all_at {α : Type} {Q : Nat → α → Prop} : ∀ (l : List (Option α)) (i : Nat), AllT Q i l → ∀ (t : Nat) (d : α), join (lat? l t) = some d → Q (i + t) d
  | [], i, _, t, d, h => by cases t <;> cases h
  | none :: r, i, ha, 0, d, h => by cases h
  | none :: r, i, ha, t + 1, d, h => by have := all_at r (i + 1) ha t d h; rw [show i + (t + 1) = i + 1 + t by omega]; exact this
  | some x :: r, i, ha, 0, d, h => by cases h; exact ha.1
  | some x :: r, i, ha, t + 1, d, h => by have := all_at r (i + 1) ha.2 t d h; rw [show i + (t + 1) = i + 1 + t by omega]; exact this
def InfoQ (t : Nat) (x : Value × Nat × Nat) : Prop := ∃ i, Tryd.prog.info? t = some i ∧ i.zero = some x.1 ∧ i.size = x.2.1 ∧ i.bytes = x.2.2 ∧ x.1.cells.size = x.2.1 ∧ x.1.cells.toList.all Value.oneCell' = true
def TyQ (t : Nat) (τ : Ty) : Prop := ∃ i, Tryd.prog.info? t = some i ∧ i.size = τ.sz ∧ Nat.blt 0 τ.sz = true
def FnQ (f : Nat) (fn : Func) : Prop := Tryd.prog.funcs[f]? = some fn ∧ (fn.name == "runtime.NumGoroutine") = false
theorem inf2 : Tryd.prog.info? 2 = some Tryd.t2 := by kernel_rfl
theorem inf3 : Tryd.prog.info? 3 = some Tryd.t3 := by kernel_rfl
theorem inf4 : Tryd.prog.info? 4 = some Tryd.t4 := by kernel_rfl
theorem inf5 : Tryd.prog.info? 5 = some Tryd.t5 := by kernel_rfl
theorem inf9 : Tryd.prog.info? 9 = some Tryd.t9 := by kernel_rfl
theorem inf21 : Tryd.prog.info? 21 = some Tryd.t21 := by kernel_rfl
theorem inf23 : Tryd.prog.info? 23 = some Tryd.t23 := by kernel_rfl
theorem inf24 : Tryd.prog.info? 24 = some Tryd.t24 := by kernel_rfl
theorem inf29 : Tryd.prog.info? 29 = some Tryd.t29 := by kernel_rfl
theorem inf31 : Tryd.prog.info? 31 = some Tryd.t31 := by kernel_rfl
theorem inf35 : Tryd.prog.info? 35 = some Tryd.t35 := by kernel_rfl
theorem inf37 : Tryd.prog.info? 37 = some Tryd.t37 := by kernel_rfl
theorem inf40 : Tryd.prog.info? 40 = some Tryd.t40 := by kernel_rfl
theorem inf42 : Tryd.prog.info? 42 = some Tryd.t42 := by kernel_rfl
theorem inf47 : Tryd.prog.info? 47 = some Tryd.t47 := by kernel_rfl
theorem inf48 : Tryd.prog.info? 48 = some Tryd.t48 := by kernel_rfl
theorem inf50 : Tryd.prog.info? 50 = some Tryd.t50 := by kernel_rfl
theorem inf52 : Tryd.prog.info? 52 = some Tryd.t52 := by kernel_rfl
theorem inf55 : Tryd.prog.info? 55 = some Tryd.t55 := by kernel_rfl
theorem inf56 : Tryd.prog.info? 56 = some Tryd.t56 := by kernel_rfl
theorem inf58 : Tryd.prog.info? 58 = some Tryd.t58 := by kernel_rfl
theorem inf65 : Tryd.prog.info? 65 = some Tryd.t65 := by kernel_rfl
theorem inf67 : Tryd.prog.info? 67 = some Tryd.t67 := by kernel_rfl
theorem inf70 : Tryd.prog.info? 70 = some Tryd.t70 := by kernel_rfl
theorem inf72 : Tryd.prog.info? 72 = some Tryd.t72 := by kernel_rfl
theorem inf76 : Tryd.prog.info? 76 = some Tryd.t76 := by kernel_rfl
theorem inf83 : Tryd.prog.info? 83 = some Tryd.t83 := by kernel_rfl
theorem inf84 : Tryd.prog.info? 84 = some Tryd.t84 := by kernel_rfl
theorem inf86 : Tryd.prog.info? 86 = some Tryd.t86 := by kernel_rfl
theorem inf90 : Tryd.prog.info? 90 = some Tryd.t90 := by kernel_rfl
theorem inf91 : Tryd.prog.info? 91 = some Tryd.t91 := by kernel_rfl
theorem inf93 : Tryd.prog.info? 93 = some Tryd.t93 := by kernel_rfl
theorem inf95 : Tryd.prog.info? 95 = some Tryd.t95 := by kernel_rfl
theorem inf97 : Tryd.prog.info? 97 = some Tryd.t97 := by kernel_rfl
theorem inf105 : Tryd.prog.info? 105 = some Tryd.t105 := by kernel_rfl
theorem inf107 : Tryd.prog.info? 107 = some Tryd.t107 := by kernel_rfl
theorem inf129 : Tryd.prog.info? 129 = some Tryd.t129 := by kernel_rfl
theorem inf136 : Tryd.prog.info? 136 = some Tryd.t136 := by kernel_rfl
theorem inf142 : Tryd.prog.info? 142 = some Tryd.t142 := by kernel_rfl
theorem inf146 : Tryd.prog.info? 146 = some Tryd.t146 := by kernel_rfl
theorem inf159 : Tryd.prog.info? 159 = some Tryd.t159 := by kernel_rfl
theorem inf162 : Tryd.prog.info? 162 = some Tryd.t162 := by kernel_rfl
theorem inf165 : Tryd.prog.info? 165 = some Tryd.t165 := by kernel_rfl
theorem inf166 : Tryd.prog.info? 166 = some Tryd.t166 := by kernel_rfl
theorem inf169 : Tryd.prog.info? 169 = some Tryd.t169 := by kernel_rfl
theorem inf171 : Tryd.prog.info? 171 = some Tryd.t171 := by kernel_rfl
theorem inf180 : Tryd.prog.info? 180 = some Tryd.t180 := by kernel_rfl
theorem inf182 : Tryd.prog.info? 182 = some Tryd.t182 := by kernel_rfl
theorem inf191 : Tryd.prog.info? 191 = some Tryd.t191 := by kernel_rfl
theorem inf193 : Tryd.prog.info? 193 = some Tryd.t193 := by kernel_rfl
theorem inf213 : Tryd.prog.info? 213 = some Tryd.t213 := by kernel_rfl
theorem inf215 : Tryd.prog.info? 215 = some Tryd.t215 := by kernel_rfl
theorem inf239 : Tryd.prog.info? 239 = some Tryd.t239 := by kernel_rfl
theorem inf251 : Tryd.prog.info? 251 = some Tryd.t251 := by kernel_rfl
theorem inf256 : Tryd.prog.info? 256 = some Tryd.t256 := by kernel_rfl
theorem inf274 : Tryd.prog.info? 274 = some Tryd.t274 := by kernel_rfl
theorem inf277 : Tryd.prog.info? 277 = some Tryd.t277 := by kernel_rfl
theorem inf279 : Tryd.prog.info? 279 = some Tryd.t279 := by kernel_rfl
theorem inf283 : Tryd.prog.info? 283 = some Tryd.t283 := by kernel_rfl
theorem inf305 : Tryd.prog.info? 305 = some Tryd.t305 := by kernel_rfl
theorem fnm3 : (Tryd.f3.name == "runtime.NumGoroutine") = false := by kernel_rfl
theorem fnm4 : (Tryd.f4.name == "runtime.NumGoroutine") = false := by kernel_rfl
theorem fnm5 : (Tryd.f5.name == "runtime.NumGoroutine") = false := by kernel_rfl
theorem fnm6 : (Tryd.f6.name == "runtime.NumGoroutine") = false := by kernel_rfl
theorem fnm7 : (Tryd.f7.name == "runtime.NumGoroutine") = false := by kernel_rfl
theorem fnm8 : (Tryd.f8.name == "runtime.NumGoroutine") = false := by kernel_rfl
theorem fnm9 : (Tryd.f9.name == "runtime.NumGoroutine") = false := by kernel_rfl
theorem fnm10 : (Tryd.f10.name == "runtime.NumGoroutine") = false := by kernel_rfl
theorem fnm11 : (Tryd.f11.name == "runtime.NumGoroutine") = false := by kernel_rfl
theorem fnm12 : (Tryd.f12.name == "runtime.NumGoroutine") = false := by kernel_rfl
theorem fnm13 : (Tryd.f13.name == "runtime.NumGoroutine") = false := by kernel_rfl
theorem fnm14 : (Tryd.f14.name == "runtime.NumGoroutine") = false := by kernel_rfl
theorem fnm15 : (Tryd.f15.name == "runtime.NumGoroutine") = false := by kernel_rfl
theorem fnm16 : (Tryd.f16.name == "runtime.NumGoroutine") = false := by kernel_rfl
theorem fnm17 : (Tryd.f17.name == "runtime.NumGoroutine") = false := by kernel_rfl
theorem fnm18 : (Tryd.f18.name == "runtime.NumGoroutine") = false := by kernel_rfl
theorem fnm19 : (Tryd.f19.name == "runtime.NumGoroutine") = false := by kernel_rfl
theorem fnm20 : (Tryd.f20.name == "runtime.NumGoroutine") = false := by kernel_rfl
theorem fnm21 : (Tryd.f21.name == "runtime.NumGoroutine") = false := by kernel_rfl
theorem fnm22 : (Tryd.f22.name == "runtime.NumGoroutine") = false := by kernel_rfl
theorem fnm23 : (Tryd.f23.name == "runtime.NumGoroutine") = false := by kernel_rfl
theorem fnm24 : (Tryd.f24.name == "runtime.NumGoroutine") = false := by kernel_rfl
theorem fnm25 : (Tryd.f25.name == "runtime.NumGoroutine") = false := by kernel_rfl
theorem fnm26 : (Tryd.f26.name == "runtime.NumGoroutine") = false := by kernel_rfl
theorem fnm27 : (Tryd.f27.name == "runtime.NumGoroutine") = false := by kernel_rfl
theorem fnm28 : (Tryd.f28.name == "runtime.NumGoroutine") = false := by kernel_rfl
theorem fnm29 : (Tryd.f29.name == "runtime.NumGoroutine") = false := by kernel_rfl
theorem fnm30 : (Tryd.f30.name == "runtime.NumGoroutine") = false := by kernel_rfl
theorem fnm31 : (Tryd.f31.name == "runtime.NumGoroutine") = false := by kernel_rfl
theorem fnm32 : (Tryd.f32.name == "runtime.NumGoroutine") = false := by kernel_rfl
theorem fnm33 : (Tryd.f33.name == "runtime.NumGoroutine") = false := by kernel_rfl
theorem fnm34 : (Tryd.f34.name == "runtime.NumGoroutine") = false := by kernel_rfl
theorem fnm35 : (Tryd.f35.name == "runtime.NumGoroutine") = false := by kernel_rfl
theorem fnm36 : (Tryd.f36.name == "runtime.NumGoroutine") = false := by kernel_rfl
theorem fnm37 : (Tryd.f37.name == "runtime.NumGoroutine") = false := by kernel_rfl
theorem fnm38 : (Tryd.f38.name == "runtime.NumGoroutine") = false := by kernel_rfl
theorem fnm39 : (Tryd.f39.name == "runtime.NumGoroutine") = false := by kernel_rfl
theorem fnm40 : (Tryd.f40.name == "runtime.NumGoroutine") = false := by kernel_rfl
theorem fnm41 : (Tryd.f41.name == "runtime.NumGoroutine") = false := by kernel_rfl
theorem fnm42 : (Tryd.f42.name == "runtime.NumGoroutine") = false := by kernel_rfl
theorem fnm43 : (Tryd.f43.name == "runtime.NumGoroutine") = false := by kernel_rfl
theorem fnm44 : (Tryd.f44.name == "runtime.NumGoroutine") = false := by kernel_rfl
theorem fnm45 : (Tryd.f45.name == "runtime.NumGoroutine") = false := by kernel_rfl
theorem fnm46 : (Tryd.f46.name == "runtime.NumGoroutine") = false := by kernel_rfl
theorem fnm47 : (Tryd.f47.name == "runtime.NumGoroutine") = false := by kernel_rfl
theorem fnm48 : (Tryd.f48.name == "runtime.NumGoroutine") = false := by kernel_rfl
theorem fnm49 : (Tryd.f49.name == "runtime.NumGoroutine") = false := by kernel_rfl
theorem fnm50 : (Tryd.f50.name == "runtime.NumGoroutine") = false := by kernel_rfl
theorem fnm51 : (Tryd.f51.name == "runtime.NumGoroutine") = false := by kernel_rfl
theorem fnm52 : (Tryd.f52.name == "runtime.NumGoroutine") = false := by kernel_rfl
theorem fnm53 : (Tryd.f53.name == "runtime.NumGoroutine") = false := by kernel_rfl
theorem fnm54 : (Tryd.f54.name == "runtime.NumGoroutine") = false := by kernel_rfl
theorem fnm55 : (Tryd.f55.name == "runtime.NumGoroutine") = false := by kernel_rfl
theorem fnm56 : (Tryd.f56.name == "runtime.NumGoroutine") = false := by kernel_rfl
theorem fnm57 : (Tryd.f57.name == "runtime.NumGoroutine") = false := by kernel_rfl
theorem fnm58 : (Tryd.f58.name == "runtime.NumGoroutine") = false := by kernel_rfl
theorem fnm59 : (Tryd.f59.name == "runtime.NumGoroutine") = false := by kernel_rfl
theorem fnm60 : (Tryd.f60.name == "runtime.NumGoroutine") = false := by kernel_rfl
theorem fnm61 : (Tryd.f61.name == "runtime.NumGoroutine") = false := by kernel_rfl
theorem fnm62 : (Tryd.f62.name == "runtime.NumGoroutine") = false := by kernel_rfl
theorem fnm63 : (Tryd.f63.name == "runtime.NumGoroutine") = false := by kernel_rfl
theorem fnm64 : (Tryd.f64.name == "runtime.NumGoroutine") = false := by kernel_rfl
theorem fnm65 : (Tryd.f65.name == "runtime.NumGoroutine") = false := by kernel_rfl
theorem fnm66 : (Tryd.f66.name == "runtime.NumGoroutine") = false := by kernel_rfl
theorem fnm67 : (Tryd.f67.name == "runtime.NumGoroutine") = false := by kernel_rfl
theorem fnm68 : (Tryd.f68.name == "runtime.NumGoroutine") = false := by kernel_rfl
theorem fnm69 : (Tryd.f69.name == "runtime.NumGoroutine") = false := by kernel_rfl
theorem fnm70 : (Tryd.f70.name == "runtime.NumGoroutine") = false := by kernel_rfl
theorem fnm71 : (Tryd.f71.name == "runtime.NumGoroutine") = false := by kernel_rfl
theorem fnm72 : (Tryd.f72.name == "runtime.NumGoroutine") = false := by kernel_rfl
theorem fnm73 : (Tryd.f73.name == "runtime.NumGoroutine") = false := by kernel_rfl
theorem fnm74 : (Tryd.f74.name == "runtime.NumGoroutine") = false := by kernel_rfl
theorem fnm75 : (Tryd.f75.name == "runtime.NumGoroutine") = false := by kernel_rfl
theorem fnm76 : (Tryd.f76.name == "runtime.NumGoroutine") = false := by kernel_rfl
theorem fnm77 : (Tryd.f77.name == "runtime.NumGoroutine") = false := by kernel_rfl
theorem fnm78 : (Tryd.f78.name == "runtime.NumGoroutine") = false := by kernel_rfl
theorem fnm79 : (Tryd.f79.name == "runtime.NumGoroutine") = false := by kernel_rfl
theorem fnm80 : (Tryd.f80.name == "runtime.NumGoroutine") = false := by kernel_rfl
theorem fnm81 : (Tryd.f81.name == "runtime.NumGoroutine") = false := by kernel_rfl
theorem fnm82 : (Tryd.f82.name == "runtime.NumGoroutine") = false := by kernel_rfl
theorem fnm83 : (Tryd.f83.name == "runtime.NumGoroutine") = false := by kernel_rfl
theorem fnm84 : (Tryd.f84.name == "runtime.NumGoroutine") = false := by kernel_rfl
theorem fnm85 : (Tryd.f85.name == "runtime.NumGoroutine") = false := by kernel_rfl
theorem fnm86 : (Tryd.f86.name == "runtime.NumGoroutine") = false := by kernel_rfl
theorem fnm87 : (Tryd.f87.name == "runtime.NumGoroutine") = false := by kernel_rfl
theorem fnm88 : (Tryd.f88.name == "runtime.NumGoroutine") = false := by kernel_rfl
theorem fnm89 : (Tryd.f89.name == "runtime.NumGoroutine") = false := by kernel_rfl
theorem fnm90 : (Tryd.f90.name == "runtime.NumGoroutine") = false := by kernel_rfl
theorem fnm91 : (Tryd.f91.name == "runtime.NumGoroutine") = false := by kernel_rfl
theorem fnm92 : (Tryd.f92.name == "runtime.NumGoroutine") = false := by kernel_rfl
theorem fnm93 : (Tryd.f93.name == "runtime.NumGoroutine") = false := by kernel_rfl
theorem fnm94 : (Tryd.f94.name == "runtime.NumGoroutine") = false := by kernel_rfl
theorem fnm95 : (Tryd.f95.name == "runtime.NumGoroutine") = false := by kernel_rfl
theorem fnm96 : (Tryd.f96.name == "runtime.NumGoroutine") = false := by kernel_rfl
theorem fnm97 : (Tryd.f97.name == "runtime.NumGoroutine") = false := by kernel_rfl
theorem fnm98 : (Tryd.f98.name == "runtime.NumGoroutine") = false := by kernel_rfl
theorem fnm99 : (Tryd.f99.name == "runtime.NumGoroutine") = false := by kernel_rfl
theorem fnm100 : (Tryd.f100.name == "runtime.NumGoroutine") = false := by kernel_rfl
theorem fnm101 : (Tryd.f101.name == "runtime.NumGoroutine") = false := by kernel_rfl
theorem fnm102 : (Tryd.f102.name == "runtime.NumGoroutine") = false := by kernel_rfl
theorem fnm103 : (Tryd.f103.name == "runtime.NumGoroutine") = false := by kernel_rfl
theorem fnm104 : (Tryd.f104.name == "runtime.NumGoroutine") = false := by kernel_rfl
theorem fnm105 : (Tryd.f105.name == "runtime.NumGoroutine") = false := by kernel_rfl
theorem fnm106 : (Tryd.f106.name == "runtime.NumGoroutine") = false := by kernel_rfl
theorem fnm107 : (Tryd.f107.name == "runtime.NumGoroutine") = false := by kernel_rfl
theorem fnm108 : (Tryd.f108.name == "runtime.NumGoroutine") = false := by kernel_rfl
theorem fnm109 : (Tryd.f109.name == "runtime.NumGoroutine") = false := by kernel_rfl
theorem fnm110 : (Tryd.f110.name == "runtime.NumGoroutine") = false := by kernel_rfl
theorem fnm111 : (Tryd.f111.name == "runtime.NumGoroutine") = false := by kernel_rfl
theorem fnm112 : (Tryd.f112.name == "runtime.NumGoroutine") = false := by kernel_rfl
theorem fnm113 : (Tryd.f113.name == "runtime.NumGoroutine") = false := by kernel_rfl
theorem fnm114 : (Tryd.f114.name == "runtime.NumGoroutine") = false := by kernel_rfl
theorem fnm115 : (Tryd.f115.name == "runtime.NumGoroutine") = false := by kernel_rfl
theorem fnm116 : (Tryd.f116.name == "runtime.NumGoroutine") = false := by kernel_rfl
theorem fnm117 : (Tryd.f117.name == "runtime.NumGoroutine") = false := by kernel_rfl
theorem fnm118 : (Tryd.f118.name == "runtime.NumGoroutine") = false := by kernel_rfl
theorem fnm119 : (Tryd.f119.name == "runtime.NumGoroutine") = false := by kernel_rfl
theorem fnm120 : (Tryd.f120.name == "runtime.NumGoroutine") = false := by kernel_rfl
theorem fnm121 : (Tryd.f121.name == "runtime.NumGoroutine") = false := by kernel_rfl
theorem fnm122 : (Tryd.f122.name == "runtime.NumGoroutine") = false := by kernel_rfl
theorem fnm123 : (Tryd.f123.name == "runtime.NumGoroutine") = false := by kernel_rfl
theorem fnm124 : (Tryd.f124.name == "runtime.NumGoroutine") = false := by kernel_rfl
theorem fnm125 : (Tryd.f125.name == "runtime.NumGoroutine") = false := by kernel_rfl
theorem fnm126 : (Tryd.f126.name == "runtime.NumGoroutine") = false := by kernel_rfl
theorem fnm127 : (Tryd.f127.name == "runtime.NumGoroutine") = false := by kernel_rfl
theorem fnm128 : (Tryd.f128.name == "runtime.NumGoroutine") = false := by kernel_rfl
theorem fnm129 : (Tryd.f129.name == "runtime.NumGoroutine") = false := by kernel_rfl
theorem fnm130 : (Tryd.f130.name == "runtime.NumGoroutine") = false := by kernel_rfl
theorem fnm131 : (Tryd.f131.name == "runtime.NumGoroutine") = false := by kernel_rfl
theorem fnm132 : (Tryd.f132.name == "runtime.NumGoroutine") = false := by kernel_rfl
theorem fnm133 : (Tryd.f133.name == "runtime.NumGoroutine") = false := by kernel_rfl
theorem fnm134 : (Tryd.f134.name == "runtime.NumGoroutine") = false := by kernel_rfl
theorem fnm135 : (Tryd.f135.name == "runtime.NumGoroutine") = false := by kernel_rfl
theorem fnm136 : (Tryd.f136.name == "runtime.NumGoroutine") = false := by kernel_rfl
theorem fnm137 : (Tryd.f137.name == "runtime.NumGoroutine") = false := by kernel_rfl
theorem fnm138 : (Tryd.f138.name == "runtime.NumGoroutine") = false := by kernel_rfl
theorem fnm139 : (Tryd.f139.name == "runtime.NumGoroutine") = false := by kernel_rfl
theorem fnm140 : (Tryd.f140.name == "runtime.NumGoroutine") = false := by kernel_rfl
theorem fnm141 : (Tryd.f141.name == "runtime.NumGoroutine") = false := by kernel_rfl
theorem fnm142 : (Tryd.f142.name == "runtime.NumGoroutine") = false := by kernel_rfl
theorem fnm143 : (Tryd.f143.name == "runtime.NumGoroutine") = false := by kernel_rfl
theorem fnm144 : (Tryd.f144.name == "runtime.NumGoroutine") = false := by kernel_rfl
theorem fnm145 : (Tryd.f145.name == "runtime.NumGoroutine") = false := by kernel_rfl
theorem fnm146 : (Tryd.f146.name == "runtime.NumGoroutine") = false := by kernel_rfl
theorem fnm147 : (Tryd.f147.name == "runtime.NumGoroutine") = false := by kernel_rfl
theorem fnm148 : (Tryd.f148.name == "runtime.NumGoroutine") = false := by kernel_rfl
theorem fnm149 : (Tryd.f149.name == "runtime.NumGoroutine") = false := by kernel_rfl
theorem fnm150 : (Tryd.f150.name == "runtime.NumGoroutine") = false := by kernel_rfl
theorem fnm151 : (Tryd.f151.name == "runtime.NumGoroutine") = false := by kernel_rfl
theorem fnm152 : (Tryd.f152.name == "runtime.NumGoroutine") = false := by kernel_rfl
theorem fnm153 : (Tryd.f153.name == "runtime.NumGoroutine") = false := by kernel_rfl
theorem fnm154 : (Tryd.f154.name == "runtime.NumGoroutine") = false := by kernel_rfl
theorem fnm155 : (Tryd.f155.name == "runtime.NumGoroutine") = false := by kernel_rfl
theorem fnm156 : (Tryd.f156.name == "runtime.NumGoroutine") = false := by kernel_rfl
theorem fnm157 : (Tryd.f157.name == "runtime.NumGoroutine") = false := by kernel_rfl
theorem fnm158 : (Tryd.f158.name == "runtime.NumGoroutine") = false := by kernel_rfl
theorem fnm159 : (Tryd.f159.name == "runtime.NumGoroutine") = false := by kernel_rfl
theorem fnm160 : (Tryd.f160.name == "runtime.NumGoroutine") = false := by kernel_rfl
theorem fnm161 : (Tryd.f161.name == "runtime.NumGoroutine") = false := by kernel_rfl
theorem fnm162 : (Tryd.f162.name == "runtime.NumGoroutine") = false := by kernel_rfl
theorem fnm163 : (Tryd.f163.name == "runtime.NumGoroutine") = false := by kernel_rfl
theorem fnm164 : (Tryd.f164.name == "runtime.NumGoroutine") = false := by kernel_rfl
theorem fnm165 : (Tryd.f165.name == "runtime.NumGoroutine") = false := by kernel_rfl
theorem fnm166 : (Tryd.f166.name == "runtime.NumGoroutine") = false := by kernel_rfl
theorem fnm167 : (Tryd.f167.name == "runtime.NumGoroutine") = false := by kernel_rfl
theorem fnm168 : (Tryd.f168.name == "runtime.NumGoroutine") = false := by kernel_rfl
theorem fnm169 : (Tryd.f169.name == "runtime.NumGoroutine") = false := by kernel_rfl
theorem fnm170 : (Tryd.f170.name == "runtime.NumGoroutine") = false := by kernel_rfl
theorem fnm171 : (Tryd.f171.name == "runtime.NumGoroutine") = false := by kernel_rfl
theorem fnm172 : (Tryd.f172.name == "runtime.NumGoroutine") = false := by kernel_rfl
theorem fnm173 : (Tryd.f173.name == "runtime.NumGoroutine") = false := by kernel_rfl
theorem fnm174 : (Tryd.f174.name == "runtime.NumGoroutine") = false := by kernel_rfl
theorem fnm175 : (Tryd.f175.name == "runtime.NumGoroutine") = false := by kernel_rfl
theorem fnm176 : (Tryd.f176.name == "runtime.NumGoroutine") = false := by kernel_rfl
theorem fnm177 : (Tryd.f177.name == "runtime.NumGoroutine") = false := by kernel_rfl
theorem fnm178 : (Tryd.f178.name == "runtime.NumGoroutine") = false := by kernel_rfl
theorem fnm179 : (Tryd.f179.name == "runtime.NumGoroutine") = false := by kernel_rfl
theorem fnm180 : (Tryd.f180.name == "runtime.NumGoroutine") = false := by kernel_rfl
theorem fnm181 : (Tryd.f181.name == "runtime.NumGoroutine") = false := by kernel_rfl
theorem fnm182 : (Tryd.f182.name == "runtime.NumGoroutine") = false := by kernel_rfl
theorem fnm183 : (Tryd.f183.name == "runtime.NumGoroutine") = false := by kernel_rfl
theorem fnm184 : (Tryd.f184.name == "runtime.NumGoroutine") = false := by kernel_rfl
theorem fnm185 : (Tryd.f185.name == "runtime.NumGoroutine") = false := by kernel_rfl
theorem fnm186 : (Tryd.f186.name == "runtime.NumGoroutine") = false := by kernel_rfl
theorem fnm187 : (Tryd.f187.name == "runtime.NumGoroutine") = false := by kernel_rfl
theorem fnm188 : (Tryd.f188.name == "runtime.NumGoroutine") = false := by kernel_rfl
theorem fnm189 : (Tryd.f189.name == "runtime.NumGoroutine") = false := by kernel_rfl
theorem fnm190 : (Tryd.f190.name == "runtime.NumGoroutine") = false := by kernel_rfl
theorem fnm191 : (Tryd.f191.name == "runtime.NumGoroutine") = false := by kernel_rfl
theorem fnm192 : (Tryd.f192.name == "runtime.NumGoroutine") = false := by kernel_rfl
theorem fnm193 : (Tryd.f193.name == "runtime.NumGoroutine") = false := by kernel_rfl
theorem fnm194 : (Tryd.f194.name == "runtime.NumGoroutine") = false := by kernel_rfl
theorem fnm196 : (Tryd.f196.name == "runtime.NumGoroutine") = false := by kernel_rfl
theorem fnm197 : (Tryd.f197.name == "runtime.NumGoroutine") = false := by kernel_rfl
theorem fnm198 : (Tryd.f198.name == "runtime.NumGoroutine") = false := by kernel_rfl
theorem fnm199 : (Tryd.f199.name == "runtime.NumGoroutine") = false := by kernel_rfl
theorem fnm200 : (Tryd.f200.name == "runtime.NumGoroutine") = false := by kernel_rfl
theorem fnm201 : (Tryd.f201.name == "runtime.NumGoroutine") = false := by kernel_rfl
theorem fnm202 : (Tryd.f202.name == "runtime.NumGoroutine") = false := by kernel_rfl
theorem fnm203 : (Tryd.f203.name == "runtime.NumGoroutine") = false := by kernel_rfl
theorem fnm204 : (Tryd.f204.name == "runtime.NumGoroutine") = false := by kernel_rfl
theorem fnm205 : (Tryd.f205.name == "runtime.NumGoroutine") = false := by kernel_rfl
theorem fnm206 : (Tryd.f206.name == "runtime.NumGoroutine") = false := by kernel_rfl
theorem fnm207 : (Tryd.f207.name == "runtime.NumGoroutine") = false := by kernel_rfl
theorem fnm208 : (Tryd.f208.name == "runtime.NumGoroutine") = false := by kernel_rfl
theorem fnm209 : (Tryd.f209.name == "runtime.NumGoroutine") = false := by kernel_rfl
theorem fnm210 : (Tryd.f210.name == "runtime.NumGoroutine") = false := by kernel_rfl
theorem fnm211 : (Tryd.f211.name == "runtime.NumGoroutine") = false := by kernel_rfl
theorem fnm212 : (Tryd.f212.name == "runtime.NumGoroutine") = false := by kernel_rfl
theorem fnm213 : (Tryd.f213.name == "runtime.NumGoroutine") = false := by kernel_rfl
theorem fnm214 : (Tryd.f214.name == "runtime.NumGoroutine") = false := by kernel_rfl
theorem fnm215 : (Tryd.f215.name == "runtime.NumGoroutine") = false := by kernel_rfl
theorem fnm216 : (Tryd.f216.name == "runtime.NumGoroutine") = false := by kernel_rfl
theorem fnm217 : (Tryd.f217.name == "runtime.NumGoroutine") = false := by kernel_rfl
theorem fnm218 : (Tryd.f218.name == "runtime.NumGoroutine") = false := by kernel_rfl
theorem fnm219 : (Tryd.f219.name == "runtime.NumGoroutine") = false := by kernel_rfl
theorem fnm220 : (Tryd.f220.name == "runtime.NumGoroutine") = false := by kernel_rfl
theorem fnm221 : (Tryd.f221.name == "runtime.NumGoroutine") = false := by kernel_rfl
theorem fnm222 : (Tryd.f222.name == "runtime.NumGoroutine") = false := by kernel_rfl
theorem fnm223 : (Tryd.f223.name == "runtime.NumGoroutine") = false := by kernel_rfl
theorem fnm225 : (Tryd.f225.name == "runtime.NumGoroutine") = false := by kernel_rfl
theorem fnm226 : (Tryd.f226.name == "runtime.NumGoroutine") = false := by kernel_rfl
theorem fnm227 : (Tryd.f227.name == "runtime.NumGoroutine") = false := by kernel_rfl
theorem fnm228 : (Tryd.f228.name == "runtime.NumGoroutine") = false := by kernel_rfl
theorem fnm229 : (Tryd.f229.name == "runtime.NumGoroutine") = false := by kernel_rfl
theorem fnm230 : (Tryd.f230.name == "runtime.NumGoroutine") = false := by kernel_rfl
theorem fnm231 : (Tryd.f231.name == "runtime.NumGoroutine") = false := by kernel_rfl
theorem fnm232 : (Tryd.f232.name == "runtime.NumGoroutine") = false := by kernel_rfl
theorem fnm233 : (Tryd.f233.name == "runtime.NumGoroutine") = false := by kernel_rfl
theorem fnm234 : (Tryd.f234.name == "runtime.NumGoroutine") = false := by kernel_rfl
theorem fnm235 : (Tryd.f235.name == "runtime.NumGoroutine") = false := by kernel_rfl
theorem fnm236 : (Tryd.f236.name == "runtime.NumGoroutine") = false := by kernel_rfl
theorem fnm237 : (Tryd.f237.name == "runtime.NumGoroutine") = false := by kernel_rfl
theorem fnm239 : (Tryd.f239.name == "runtime.NumGoroutine") = false := by kernel_rfl
theorem fnm240 : (Tryd.f240.name == "runtime.NumGoroutine") = false := by kernel_rfl
theorem fnm241 : (Tryd.f241.name == "runtime.NumGoroutine") = false := by kernel_rfl
theorem fnm242 : (Tryd.f242.name == "runtime.NumGoroutine") = false := by kernel_rfl
theorem fnm243 : (Tryd.f243.name == "runtime.NumGoroutine") = false := by kernel_rfl
theorem fnm244 : (Tryd.f244.name == "runtime.NumGoroutine") = false := by kernel_rfl
theorem fnm245 : (Tryd.f245.name == "runtime.NumGoroutine") = false := by kernel_rfl
theorem fnm246 : (Tryd.f246.name == "runtime.NumGoroutine") = false := by kernel_rfl
theorem fnm247 : (Tryd.f247.name == "runtime.NumGoroutine") = false := by kernel_rfl
theorem fnm248 : (Tryd.f248.name == "runtime.NumGoroutine") = false := by kernel_rfl
theorem fnm249 : (Tryd.f249.name == "runtime.NumGoroutine") = false := by kernel_rfl
theorem fnm250 : (Tryd.f250.name == "runtime.NumGoroutine") = false := by kernel_rfl
theorem fnm251 : (Tryd.f251.name == "runtime.NumGoroutine") = false := by kernel_rfl
theorem fnm252 : (Tryd.f252.name == "runtime.NumGoroutine") = false := by kernel_rfl
theorem fnm253 : (Tryd.f253.name == "runtime.NumGoroutine") = false := by kernel_rfl
theorem fnm254 : (Tryd.f254.name == "runtime.NumGoroutine") = false := by kernel_rfl
theorem fnm255 : (Tryd.f255.name == "runtime.NumGoroutine") = false := by kernel_rfl
theorem fnm256 : (Tryd.f256.name == "runtime.NumGoroutine") = false := by kernel_rfl
theorem fnm257 : (Tryd.f257.name == "runtime.NumGoroutine") = false := by kernel_rfl
theorem fnm258 : (Tryd.f258.name == "runtime.NumGoroutine") = false := by kernel_rfl
theorem fnm259 : (Tryd.f259.name == "runtime.NumGoroutine") = false := by kernel_rfl
theorem fnm260 : (Tryd.f260.name == "runtime.NumGoroutine") = false := by kernel_rfl
theorem fnm261 : (Tryd.f261.name == "runtime.NumGoroutine") = false := by kernel_rfl
theorem fnm262 : (Tryd.f262.name == "runtime.NumGoroutine") = false := by kernel_rfl
theorem fnm263 : (Tryd.f263.name == "runtime.NumGoroutine") = false := by kernel_rfl
theorem fnm264 : (Tryd.f264.name == "runtime.NumGoroutine") = false := by kernel_rfl
theorem fnm265 : (Tryd.f265.name == "runtime.NumGoroutine") = false := by kernel_rfl
theorem fnm266 : (Tryd.f266.name == "runtime.NumGoroutine") = false := by kernel_rfl
theorem fnm267 : (Tryd.f267.name == "runtime.NumGoroutine") = false := by kernel_rfl
theorem fnm268 : (Tryd.f268.name == "runtime.NumGoroutine") = false := by kernel_rfl
theorem fnm269 : (Tryd.f269.name == "runtime.NumGoroutine") = false := by kernel_rfl
theorem fnm270 : (Tryd.f270.name == "runtime.NumGoroutine") = false := by kernel_rfl
theorem und_all : AllT (fun t d => Tryd.prog.underlying t = some d) 0 undL := ⟨Tryd.underlying2, ⟨Tryd.underlying3, ⟨Tryd.underlying4, ⟨Tryd.underlying5, ⟨Tryd.underlying9, ⟨Tryd.underlying21, ⟨Tryd.underlying23, ⟨Tryd.underlying24, ⟨Tryd.underlying29, ⟨Tryd.underlying31, ⟨Tryd.underlying35, ⟨Tryd.underlying37, ⟨Tryd.underlying40, ⟨Tryd.underlying42, ⟨Tryd.underlying47, ⟨Tryd.underlying48, ⟨Tryd.underlying50, ⟨Tryd.underlying52, ⟨Tryd.underlying55, ⟨Tryd.underlying56, ⟨Tryd.underlying58, ⟨Tryd.underlying65, ⟨Tryd.underlying67, ⟨Tryd.underlying70, ⟨Tryd.underlying72, ⟨Tryd.underlying76, ⟨Tryd.underlying83, ⟨Tryd.underlying84, ⟨Tryd.underlying86, ⟨Tryd.underlying90, ⟨Tryd.underlying91, ⟨Tryd.underlying93, ⟨Tryd.underlying95, ⟨Tryd.underlying97, ⟨Tryd.underlying105, ⟨Tryd.underlying107, ⟨Tryd.underlying129, ⟨Tryd.underlying136, ⟨Tryd.underlying142, ⟨Tryd.underlying146, ⟨Tryd.underlying159, ⟨Tryd.underlying162, ⟨Tryd.underlying165, ⟨Tryd.underlying166, ⟨Tryd.underlying169, ⟨Tryd.underlying171, ⟨Tryd.underlying180, ⟨Tryd.underlying182, ⟨Tryd.underlying191, ⟨Tryd.underlying193, ⟨Tryd.underlying213, ⟨Tryd.underlying215, ⟨Tryd.underlying239, ⟨Tryd.underlying251, ⟨Tryd.underlying256, ⟨Tryd.underlying266, ⟨Tryd.underlying274, ⟨Tryd.underlying277, ⟨Tryd.underlying279, ⟨Tryd.underlying283, ⟨Tryd.underlying305, trivial⟩⟩⟩⟩⟩⟩⟩⟩⟩⟩⟩⟩⟩⟩⟩⟩⟩⟩⟩⟩⟩⟩⟩⟩⟩⟩⟩⟩⟩⟩⟩⟩⟩⟩⟩⟩⟩⟩⟩⟩⟩⟩⟩⟩⟩⟩⟩⟩⟩⟩⟩⟩⟩⟩⟩⟩⟩⟩⟩⟩⟩
theorem info_all : AllT InfoQ 0 infoL := ⟨⟨Tryd.t2, inf2, rfl, rfl, rfl, rfl, rfl⟩, ⟨⟨Tryd.t3, inf3, rfl, rfl, rfl, rfl, rfl⟩, ⟨⟨Tryd.t4, inf4, rfl, rfl, rfl, rfl, rfl⟩, ⟨⟨Tryd.t5, inf5, rfl, rfl, rfl, rfl, rfl⟩, ⟨⟨Tryd.t9, inf9, rfl, rfl, rfl, rfl, rfl⟩, ⟨⟨Tryd.t21, inf21, rfl, rfl, rfl, rfl, rfl⟩, ⟨⟨Tryd.t23, inf23, rfl, rfl, rfl, rfl, rfl⟩, ⟨⟨Tryd.t24, inf24, rfl, rfl, rfl, rfl, rfl⟩, ⟨⟨Tryd.t29, inf29, rfl, rfl, rfl, rfl, rfl⟩, ⟨⟨Tryd.t31, inf31, rfl, rfl, rfl, rfl, rfl⟩, ⟨⟨Tryd.t35, inf35, rfl, rfl, rfl, rfl, rfl⟩, ⟨⟨Tryd.t37, inf37, rfl, rfl, rfl, rfl, rfl⟩, ⟨⟨Tryd.t40, inf40, rfl, rfl, rfl, rfl, rfl⟩, ⟨⟨Tryd.t42, inf42, rfl, rfl, rfl, rfl, rfl⟩, ⟨⟨Tryd.t47, inf47, rfl, rfl, rfl, rfl, rfl⟩, ⟨⟨Tryd.t48, inf48, rfl, rfl, rfl, rfl, rfl⟩, ⟨⟨Tryd.t50, inf50, rfl, rfl, rfl, rfl, rfl⟩, ⟨⟨Tryd.t52, inf52, rfl, rfl, rfl, rfl, rfl⟩, ⟨⟨Tryd.t55, inf55, rfl, rfl, rfl, rfl, rfl⟩, ⟨⟨Tryd.t56, inf56, rfl, rfl, rfl, rfl, rfl⟩, ⟨⟨Tryd.t58, inf58, rfl, rfl, rfl, rfl, rfl⟩, ⟨⟨Tryd.t65, inf65, rfl, rfl, rfl, rfl, rfl⟩, ⟨⟨Tryd.t67, inf67, rfl, rfl, rfl, rfl, rfl⟩, ⟨⟨Tryd.t70, inf70, rfl, rfl, rfl, rfl, rfl⟩, ⟨⟨Tryd.t72, inf72, rfl, rfl, rfl, rfl, rfl⟩, ⟨⟨Tryd.t76, inf76, rfl, rfl, rfl, rfl, rfl⟩, ⟨⟨Tryd.t83, inf83, rfl, rfl, rfl, rfl, rfl⟩, ⟨⟨Tryd.t84, inf84, rfl, rfl, rfl, rfl, rfl⟩, ⟨⟨Tryd.t86, inf86, rfl, rfl, rfl, rfl, rfl⟩, ⟨⟨Tryd.t90, inf90, rfl, rfl, rfl, rfl, rfl⟩, ⟨⟨Tryd.t91, inf91, rfl, rfl, rfl, rfl, rfl⟩, ⟨⟨Tryd.t93, inf93, rfl, rfl, rfl, rfl, rfl⟩, ⟨⟨Tryd.t95, inf95, rfl, rfl, rfl, rfl, rfl⟩, ⟨⟨Tryd.t97, inf97, rfl, rfl, rfl, rfl, rfl⟩, ⟨⟨Tryd.t105, inf105, rfl, rfl, rfl, rfl, rfl⟩, ⟨⟨Tryd.t107, inf107, rfl, rfl, rfl, rfl, rfl⟩, ⟨⟨Tryd.t129, inf129, rfl, rfl, rfl, rfl, rfl⟩, ⟨⟨Tryd.t136, inf136, rfl, rfl, rfl, rfl, rfl⟩, ⟨⟨Tryd.t142, inf142, rfl, rfl, rfl, rfl, rfl⟩, ⟨⟨Tryd.t146, inf146, rfl, rfl, rfl, rfl, rfl⟩, ⟨⟨Tryd.t159, inf159, rfl, rfl, rfl, rfl, rfl⟩, ⟨⟨Tryd.t162, inf162, rfl, rfl, rfl, rfl, rfl⟩, ⟨⟨Tryd.t165, inf165, rfl, rfl, rfl, rfl, rfl⟩, ⟨⟨Tryd.t166, inf166, rfl, rfl, rfl, rfl, rfl⟩, ⟨⟨Tryd.t169, inf169, rfl, rfl, rfl, rfl, rfl⟩, ⟨⟨Tryd.t171, inf171, rfl, rfl, rfl, rfl, rfl⟩, ⟨⟨Tryd.t180, inf180, rfl, rfl, rfl, rfl, rfl⟩, ⟨⟨Tryd.t182, inf182, rfl, rfl, rfl, rfl, rfl⟩, ⟨⟨Tryd.t191, inf191, rfl, rfl, rfl, rfl, rfl⟩, ⟨⟨Tryd.t193, inf193, rfl, rfl, rfl, rfl, rfl⟩, ⟨⟨Tryd.t213, inf213, rfl, rfl, rfl, rfl, rfl⟩, ⟨⟨Tryd.t215, inf215, rfl, rfl, rfl, rfl, rfl⟩, ⟨⟨Tryd.t239, inf239, rfl, rfl, rfl, rfl, rfl⟩, ⟨⟨Tryd.t251, inf251, rfl, rfl, rfl, rfl, rfl⟩, ⟨⟨Tryd.t256, inf256, rfl, rfl, rfl, rfl, rfl⟩, ⟨⟨Tryd.t274, inf274, rfl, rfl, rfl, rfl, rfl⟩, ⟨⟨Tryd.t277, inf277, rfl, rfl, rfl, rfl, rfl⟩, ⟨⟨Tryd.t279, inf279, rfl, rfl, rfl, rfl, rfl⟩, ⟨⟨Tryd.t283, inf283, rfl, rfl, rfl, rfl, rfl⟩, ⟨⟨Tryd.t305, inf305, rfl, rfl, rfl, rfl, rfl⟩, trivial⟩⟩⟩⟩⟩⟩⟩⟩⟩⟩⟩⟩⟩⟩⟩⟩⟩⟩⟩⟩⟩⟩⟩⟩⟩⟩⟩⟩⟩⟩⟩⟩⟩⟩⟩⟩⟩⟩⟩⟩⟩⟩⟩⟩⟩⟩⟩⟩⟩⟩⟩⟩⟩⟩⟩⟩⟩⟩⟩⟩
theorem ty_all : AllT TyQ 0 tyL := ⟨⟨Tryd.t2, inf2, rfl, rfl⟩, ⟨⟨Tryd.t3, inf3, rfl, rfl⟩, ⟨⟨Tryd.t4, inf4, rfl, rfl⟩, ⟨⟨Tryd.t5, inf5, rfl, rfl⟩, ⟨⟨Tryd.t9, inf9, rfl, rfl⟩, ⟨⟨Tryd.t21, inf21, rfl, rfl⟩, ⟨⟨Tryd.t23, inf23, rfl, rfl⟩, ⟨⟨Tryd.t24, inf24, rfl, rfl⟩, ⟨⟨Tryd.t29, inf29, rfl, rfl⟩, ⟨⟨Tryd.t31, inf31, rfl, rfl⟩, ⟨⟨Tryd.t35, inf35, rfl, rfl⟩, ⟨⟨Tryd.t37, inf37, rfl, rfl⟩, ⟨⟨Tryd.t40, inf40, rfl, rfl⟩, ⟨⟨Tryd.t42, inf42, rfl, rfl⟩, ⟨⟨Tryd.t47, inf47, rfl, rfl⟩, ⟨⟨Tryd.t48, inf48, rfl, rfl⟩, ⟨⟨Tryd.t50, inf50, rfl, rfl⟩, ⟨⟨Tryd.t52, inf52, rfl, rfl⟩, ⟨⟨Tryd.t55, inf55, rfl, rfl⟩, ⟨⟨Tryd.t56, inf56, rfl, rfl⟩, ⟨⟨Tryd.t58, inf58, rfl, rfl⟩, ⟨⟨Tryd.t65, inf65, rfl, rfl⟩, ⟨⟨Tryd.t67, inf67, rfl, rfl⟩, ⟨⟨Tryd.t70, inf70, rfl, rfl⟩, ⟨⟨Tryd.t72, inf72, rfl, rfl⟩, ⟨⟨Tryd.t76, inf76, rfl, rfl⟩, ⟨⟨Tryd.t83, inf83, rfl, rfl⟩, ⟨⟨Tryd.t84, inf84, rfl, rfl⟩, ⟨⟨Tryd.t86, inf86, rfl, rfl⟩, ⟨⟨Tryd.t90, inf90, rfl, rfl⟩, ⟨⟨Tryd.t91, inf91, rfl, rfl⟩, ⟨⟨Tryd.t93, inf93, rfl, rfl⟩, ⟨⟨Tryd.t95, inf95, rfl, rfl⟩, ⟨⟨Tryd.t97, inf97, rfl, rfl⟩, ⟨⟨Tryd.t105, inf105, rfl, rfl⟩, ⟨⟨Tryd.t107, inf107, rfl, rfl⟩, ⟨⟨Tryd.t129, inf129, rfl, rfl⟩, ⟨⟨Tryd.t136, inf136, rfl, rfl⟩, ⟨⟨Tryd.t142, inf142, rfl, rfl⟩, ⟨⟨Tryd.t146, inf146, rfl, rfl⟩, ⟨⟨Tryd.t159, inf159, rfl, rfl⟩, ⟨⟨Tryd.t162, inf162, rfl, rfl⟩, ⟨⟨Tryd.t165, inf165, rfl, rfl⟩, ⟨⟨Tryd.t166, inf166, rfl, rfl⟩, ⟨⟨Tryd.t169, inf169, rfl, rfl⟩, ⟨⟨Tryd.t171, inf171, rfl, rfl⟩, ⟨⟨Tryd.t182, inf182, rfl, rfl⟩, ⟨⟨Tryd.t191, inf191, rfl, rfl⟩, ⟨⟨Tryd.t193, inf193, rfl, rfl⟩, ⟨⟨Tryd.t256, inf256, rfl, rfl⟩, ⟨⟨Tryd.t274, inf274, rfl, rfl⟩, ⟨⟨Tryd.t279, inf279, rfl, rfl⟩, ⟨⟨Tryd.t283, inf283, rfl, rfl⟩, ⟨⟨Tryd.t305, inf305, rfl, rfl⟩, trivial⟩⟩⟩⟩⟩⟩⟩⟩⟩⟩⟩⟩⟩⟩⟩⟩⟩⟩⟩⟩⟩⟩⟩⟩⟩⟩⟩⟩⟩⟩⟩⟩⟩⟩⟩⟩⟩⟩⟩⟩⟩⟩⟩⟩⟩⟩⟩⟩⟩⟩⟩⟩⟩⟩
set_option maxRecDepth 100000 in
theorem fn_all : AllT FnQ 0 fnL := ⟨⟨Tryd.func3, fnm3⟩, ⟨⟨Tryd.func4, fnm4⟩, ⟨⟨Tryd.func5, fnm5⟩, ⟨⟨Tryd.func6, fnm6⟩, ⟨⟨Tryd.func7, fnm7⟩, ⟨⟨Tryd.func8, fnm8⟩, ⟨⟨Tryd.func9, fnm9⟩, ⟨⟨Tryd.func10, fnm10⟩, ⟨⟨Tryd.func11, fnm11⟩, ⟨⟨Tryd.func12, fnm12⟩, ⟨⟨Tryd.func13, fnm13⟩, ⟨⟨Tryd.func14, fnm14⟩, ⟨⟨Tryd.func15, fnm15⟩, ⟨⟨Tryd.func16, fnm16⟩, ⟨⟨Tryd.func17, fnm17⟩, ⟨⟨Tryd.func18, fnm18⟩, ⟨⟨Tryd.func19, fnm19⟩, ⟨⟨Tryd.func20, fnm20⟩, ⟨⟨Tryd.func21, fnm21⟩, ⟨⟨Tryd.func22, fnm22⟩, ⟨⟨Tryd.func23, fnm23⟩, ⟨⟨Tryd.func24, fnm24⟩, ⟨⟨Tryd.func25, fnm25⟩, ⟨⟨Tryd.func26, fnm26⟩, ⟨⟨Tryd.func27, fnm27⟩, ⟨⟨Tryd.func28, fnm28⟩, ⟨⟨Tryd.func29, fnm29⟩, ⟨⟨Tryd.func30, fnm30⟩, ⟨⟨Tryd.func31, fnm31⟩, ⟨⟨Tryd.func32, fnm32⟩, ⟨⟨Tryd.func33, fnm33⟩, ⟨⟨Tryd.func34, fnm34⟩, ⟨⟨Tryd.func35, fnm35⟩, ⟨⟨Tryd.func36, fnm36⟩, ⟨⟨Tryd.func37, fnm37⟩, ⟨⟨Tryd.func38, fnm38⟩, ⟨⟨Tryd.func39, fnm39⟩, ⟨⟨Tryd.func40, fnm40⟩, ⟨⟨Tryd.func41, fnm41⟩, ⟨⟨Tryd.func42, fnm42⟩, ⟨⟨Tryd.func43, fnm43⟩, ⟨⟨Tryd.func44, fnm44⟩, ⟨⟨Tryd.func45, fnm45⟩, ⟨⟨Tryd.func46, fnm46⟩, ⟨⟨Tryd.func47, fnm47⟩, ⟨⟨Tryd.func48, fnm48⟩, ⟨⟨Tryd.func49, fnm49⟩, ⟨⟨Tryd.func50, fnm50⟩, ⟨⟨Tryd.func51, fnm51⟩, ⟨⟨Tryd.func52, fnm52⟩, ⟨⟨Tryd.func53, fnm53⟩, ⟨⟨Tryd.func54, fnm54⟩, ⟨⟨Tryd.func55, fnm55⟩, ⟨⟨Tryd.func56, fnm56⟩, ⟨⟨Tryd.func57, fnm57⟩, ⟨⟨Tryd.func58, fnm58⟩, ⟨⟨Tryd.func59, fnm59⟩, ⟨⟨Tryd.func60, fnm60⟩, ⟨⟨Tryd.func61, fnm61⟩, ⟨⟨Tryd.func62, fnm62⟩, ⟨⟨Tryd.func63, fnm63⟩, ⟨⟨Tryd.func64, fnm64⟩, ⟨⟨Tryd.func65, fnm65⟩, ⟨⟨Tryd.func66, fnm66⟩, ⟨⟨Tryd.func67, fnm67⟩, ⟨⟨Tryd.func68, fnm68⟩, ⟨⟨Tryd.func69, fnm69⟩, ⟨⟨Tryd.func70, fnm70⟩, ⟨⟨Tryd.func71, fnm71⟩, ⟨⟨Tryd.func72, fnm72⟩, ⟨⟨Tryd.func73, fnm73⟩, ⟨⟨Tryd.func74, fnm74⟩, ⟨⟨Tryd.func75, fnm75⟩, ⟨⟨Tryd.func76, fnm76⟩, ⟨⟨Tryd.func77, fnm77⟩, ⟨⟨Tryd.func78, fnm78⟩, ⟨⟨Tryd.func79, fnm79⟩, ⟨⟨Tryd.func80, fnm80⟩, ⟨⟨Tryd.func81, fnm81⟩, ⟨⟨Tryd.func82, fnm82⟩, ⟨⟨Tryd.func83, fnm83⟩, ⟨⟨Tryd.func84, fnm84⟩, ⟨⟨Tryd.func85, fnm85⟩, ⟨⟨Tryd.func86, fnm86⟩, ⟨⟨Tryd.func87, fnm87⟩, ⟨⟨Tryd.func88, fnm88⟩, ⟨⟨Tryd.func89, fnm89⟩, ⟨⟨Tryd.func90, fnm90⟩, ⟨⟨Tryd.func91, fnm91⟩, ⟨⟨Tryd.func92, fnm92⟩, ⟨⟨Tryd.func93, fnm93⟩, ⟨⟨Tryd.func94, fnm94⟩, ⟨⟨Tryd.func95, fnm95⟩, ⟨⟨Tryd.func96, fnm96⟩, ⟨⟨Tryd.func97, fnm97⟩, ⟨⟨Tryd.func98, fnm98⟩, ⟨⟨Tryd.func99, fnm99⟩, ⟨⟨Tryd.func100, fnm100⟩, ⟨⟨Tryd.func101, fnm101⟩, ⟨⟨Tryd.func102, fnm102⟩, ⟨⟨Tryd.func103, fnm103⟩, ⟨⟨Tryd.func104, fnm104⟩, ⟨⟨Tryd.func105, fnm105⟩, ⟨⟨Tryd.func106, fnm106⟩, ⟨⟨Tryd.func107, fnm107⟩, ⟨⟨Tryd.func108, fnm108⟩, ⟨⟨Tryd.func109, fnm109⟩, ⟨⟨Tryd.func110, fnm110⟩, ⟨⟨Tryd.func111, fnm111⟩, ⟨⟨Tryd.func112, fnm112⟩, ⟨⟨Tryd.func113, fnm113⟩, ⟨⟨Tryd.func114, fnm114⟩, ⟨⟨Tryd.func115, fnm115⟩, ⟨⟨Tryd.func116, fnm116⟩, ⟨⟨Tryd.func117, fnm117⟩, ⟨⟨Tryd.func118, fnm118⟩, ⟨⟨Tryd.func119, fnm119⟩, ⟨⟨Tryd.func120, fnm120⟩, ⟨⟨Tryd.func121, fnm121⟩, ⟨⟨Tryd.func122, fnm122⟩, ⟨⟨Tryd.func123, fnm123⟩, ⟨⟨Tryd.func124, fnm124⟩, ⟨⟨Tryd.func125, fnm125⟩, ⟨⟨Tryd.func126, fnm126⟩, ⟨⟨Tryd.func127, fnm127⟩, ⟨⟨Tryd.func128, fnm128⟩, ⟨⟨Tryd.func129, fnm129⟩, ⟨⟨Tryd.func130, fnm130⟩, ⟨⟨Tryd.func131, fnm131⟩, ⟨⟨Tryd.func132, fnm132⟩, ⟨⟨Tryd.func133, fnm133⟩, ⟨⟨Tryd.func134, fnm134⟩, ⟨⟨Tryd.func135, fnm135⟩, ⟨⟨Tryd.func136, fnm136⟩, ⟨⟨Tryd.func137, fnm137⟩, ⟨⟨Tryd.func138, fnm138⟩, ⟨⟨Tryd.func139, fnm139⟩, ⟨⟨Tryd.func140, fnm140⟩, ⟨⟨Tryd.func141, fnm141⟩, ⟨⟨Tryd.func142, fnm142⟩, ⟨⟨Tryd.func143, fnm143⟩, ⟨⟨Tryd.func144, fnm144⟩, ⟨⟨Tryd.func145, fnm145⟩, ⟨⟨Tryd.func146, fnm146⟩, ⟨⟨Tryd.func147, fnm147⟩, ⟨⟨Tryd.func148, fnm148⟩, ⟨⟨Tryd.func149, fnm149⟩, ⟨⟨Tryd.func150, fnm150⟩, ⟨⟨Tryd.func151, fnm151⟩, ⟨⟨Tryd.func152, fnm152⟩, ⟨⟨Tryd.func153, fnm153⟩, ⟨⟨Tryd.func154, fnm154⟩, ⟨⟨Tryd.func155, fnm155⟩, ⟨⟨Tryd.func156, fnm156⟩, ⟨⟨Tryd.func157, fnm157⟩, ⟨⟨Tryd.func158, fnm158⟩, ⟨⟨Tryd.func159, fnm159⟩, ⟨⟨Tryd.func160, fnm160⟩, ⟨⟨Tryd.func161, fnm161⟩, ⟨⟨Tryd.func162, fnm162⟩, ⟨⟨Tryd.func163, fnm163⟩, ⟨⟨Tryd.func164, fnm164⟩, ⟨⟨Tryd.func165, fnm165⟩, ⟨⟨Tryd.func166, fnm166⟩, ⟨⟨Tryd.func167, fnm167⟩, ⟨⟨Tryd.func168, fnm168⟩, ⟨⟨Tryd.func169, fnm169⟩, ⟨⟨Tryd.func170, fnm170⟩, ⟨⟨Tryd.func171, fnm171⟩, ⟨⟨Tryd.func172, fnm172⟩, ⟨⟨Tryd.func173, fnm173⟩, ⟨⟨Tryd.func174, fnm174⟩, ⟨⟨Tryd.func175, fnm175⟩, ⟨⟨Tryd.func176, fnm176⟩, ⟨⟨Tryd.func177, fnm177⟩, ⟨⟨Tryd.func178, fnm178⟩, ⟨⟨Tryd.func179, fnm179⟩, ⟨⟨Tryd.func180, fnm180⟩, ⟨⟨Tryd.func181, fnm181⟩, ⟨⟨Tryd.func182, fnm182⟩, ⟨⟨Tryd.func183, fnm183⟩, ⟨⟨Tryd.func184, fnm184⟩, ⟨⟨Tryd.func185, fnm185⟩, ⟨⟨Tryd.func186, fnm186⟩, ⟨⟨Tryd.func187, fnm187⟩, ⟨⟨Tryd.func188, fnm188⟩, ⟨⟨Tryd.func189, fnm189⟩, ⟨⟨Tryd.func190, fnm190⟩, ⟨⟨Tryd.func191, fnm191⟩, ⟨⟨Tryd.func192, fnm192⟩, ⟨⟨Tryd.func193, fnm193⟩, ⟨⟨Tryd.func194, fnm194⟩, ⟨⟨Tryd.func196, fnm196⟩, ⟨⟨Tryd.func197, fnm197⟩, ⟨⟨Tryd.func198, fnm198⟩, ⟨⟨Tryd.func199, fnm199⟩, ⟨⟨Tryd.func200, fnm200⟩, ⟨⟨Tryd.func201, fnm201⟩, ⟨⟨Tryd.func202, fnm202⟩, ⟨⟨Tryd.func203, fnm203⟩, ⟨⟨Tryd.func204, fnm204⟩, ⟨⟨Tryd.func205, fnm205⟩, ⟨⟨Tryd.func206, fnm206⟩, ⟨⟨Tryd.func207, fnm207⟩, ⟨⟨Tryd.func208, fnm208⟩, ⟨⟨Tryd.func209, fnm209⟩, ⟨⟨Tryd.func210, fnm210⟩, ⟨⟨Tryd.func211, fnm211⟩, ⟨⟨Tryd.func212, fnm212⟩, ⟨⟨Tryd.func213, fnm213⟩, ⟨⟨Tryd.func214, fnm214⟩, ⟨⟨Tryd.func215, fnm215⟩, ⟨⟨Tryd.func216, fnm216⟩, ⟨⟨Tryd.func217, fnm217⟩, ⟨⟨Tryd.func218, fnm218⟩, ⟨⟨Tryd.func219, fnm219⟩, ⟨⟨Tryd.func220, fnm220⟩, ⟨⟨Tryd.func221, fnm221⟩, ⟨⟨Tryd.func222, fnm222⟩, ⟨⟨Tryd.func223, fnm223⟩, ⟨⟨Tryd.func225, fnm225⟩, ⟨⟨Tryd.func226, fnm226⟩, ⟨⟨Tryd.func227, fnm227⟩, ⟨⟨Tryd.func228, fnm228⟩, ⟨⟨Tryd.func229, fnm229⟩, ⟨⟨Tryd.func230, fnm230⟩, ⟨⟨Tryd.func231, fnm231⟩, ⟨⟨Tryd.func232, fnm232⟩, ⟨⟨Tryd.func233, fnm233⟩, ⟨⟨Tryd.func234, fnm234⟩, ⟨⟨Tryd.func235, fnm235⟩, ⟨⟨Tryd.func236, fnm236⟩, ⟨⟨Tryd.func237, fnm237⟩, ⟨⟨Tryd.func239, fnm239⟩, ⟨⟨Tryd.func240, fnm240⟩, ⟨⟨Tryd.func241, fnm241⟩, ⟨⟨Tryd.func242, fnm242⟩, ⟨⟨Tryd.func243, fnm243⟩, ⟨⟨Tryd.func244, fnm244⟩, ⟨⟨Tryd.func245, fnm245⟩, ⟨⟨Tryd.func246, fnm246⟩, ⟨⟨Tryd.func247, fnm247⟩, ⟨⟨Tryd.func248, fnm248⟩, ⟨⟨Tryd.func249, fnm249⟩, ⟨⟨Tryd.func250, fnm250⟩, ⟨⟨Tryd.func251, fnm251⟩, ⟨⟨Tryd.func252, fnm252⟩, ⟨⟨Tryd.func253, fnm253⟩, ⟨⟨Tryd.func254, fnm254⟩, ⟨⟨Tryd.func255, fnm255⟩, ⟨⟨Tryd.func256, fnm256⟩, ⟨⟨Tryd.func257, fnm257⟩, ⟨⟨Tryd.func258, fnm258⟩, ⟨⟨Tryd.func259, fnm259⟩, ⟨⟨Tryd.func260, fnm260⟩, ⟨⟨Tryd.func261, fnm261⟩, ⟨⟨Tryd.func262, fnm262⟩, ⟨⟨Tryd.func263, fnm263⟩, ⟨⟨Tryd.func264, fnm264⟩, ⟨⟨Tryd.func265, fnm265⟩, ⟨⟨Tryd.func266, fnm266⟩, ⟨⟨Tryd.func267, fnm267⟩, ⟨⟨Tryd.func268, fnm268⟩, ⟨⟨Tryd.func269, fnm269⟩, ⟨⟨Tryd.func270, fnm270⟩, trivial⟩⟩⟩⟩⟩⟩⟩⟩⟩⟩⟩⟩⟩⟩⟩⟩⟩⟩⟩⟩⟩⟩⟩⟩⟩⟩⟩⟩⟩⟩⟩⟩⟩⟩⟩⟩⟩⟩⟩⟩⟩⟩⟩⟩⟩⟩⟩⟩⟩⟩⟩⟩⟩⟩⟩⟩⟩⟩⟩⟩⟩⟩⟩⟩⟩⟩⟩⟩⟩⟩⟩⟩⟩⟩⟩⟩⟩⟩⟩⟩⟩⟩⟩⟩⟩⟩⟩⟩⟩⟩⟩⟩⟩⟩⟩⟩⟩⟩⟩⟩⟩⟩⟩⟩⟩⟩⟩⟩⟩⟩⟩⟩⟩⟩⟩⟩⟩⟩⟩⟩⟩⟩⟩⟩⟩⟩⟩⟩⟩⟩⟩⟩⟩⟩⟩⟩⟩⟩⟩⟩⟩⟩⟩⟩⟩⟩⟩⟩⟩⟩⟩⟩⟩⟩⟩⟩⟩⟩⟩⟩⟩⟩⟩⟩⟩⟩⟩⟩⟩⟩⟩⟩⟩⟩⟩⟩⟩⟩⟩⟩⟩⟩⟩⟩⟩⟩⟩⟩⟩⟩⟩⟩⟩⟩⟩⟩⟩⟩⟩⟩⟩⟩⟩⟩⟩⟩⟩⟩⟩⟩⟩⟩⟩⟩⟩⟩⟩⟩⟩⟩⟩⟩⟩⟩⟩⟩⟩⟩⟩⟩⟩⟩⟩⟩⟩⟩⟩⟩⟩⟩⟩⟩⟩⟩⟩⟩⟩⟩⟩⟩⟩⟩⟩⟩⟩⟩⟩⟩⟩⟩⟩⟩⟩⟩⟩
theorem mixed : Tryd.prog.follows .mixedOrders = true := by kernel_rfl
def EqQ (t : Nat) (ts : List Ty) : Prop := Tryd.prog.underlying t = some (.struct (Tryd.prog.fieldsOf t)) ∧ Tryd.prog.stoodInHeld t = false ∧ Tryd.prog.eqGuardType Tryd.prog.depth t = false ∧ eqFsB Tryd.prog 0 (Tryd.prog.fieldsOf t).toList ts = true
theorem eqs_all : AllT EqQ 0 eqL := ⟨⟨by kernel_rfl, by kernel_rfl, by kernel_rfl, by kernel_rfl⟩, trivial⟩
theorem ext_cons {a : Nat} {l : List Nat} {n : Nat} (h : lhas (a :: l) n = true) : n = a ∨ lhas l n = true := by
  have h' : (bif Nat.beq a n then true else lhas l n) = true := h
  cases hb : Nat.beq a n with
  | true => exact .inl (Nat.eq_of_beq_eq_true hb).symm
  | false => rw [hb, cond_false] at h'; exact .inr h'
theorem ext_all : ∀ f, lhas extL f = true → ∃ fn c, Tryd.prog.funcs[f]? = some fn ∧ (fn.name == "runtime.NumGoroutine") = false ∧ fn.body = some c := by
  intro f h
  rcases ext_cons h with rfl | h
  · exact ⟨Tryd.f195, _, by kernel_rfl, by kernel_rfl, rfl⟩
  cases h
theorem ok : TabOK Γ Tryd.prog where
  und t d h := by have := all_at _ _ und_all t d h; rw [Nat.zero_add] at this; exact this
  info t z n b h := by
    obtain ⟨i, h1, h2, h3, h4, h5, _⟩ := all_at _ _ info_all t (z, n, b) h
    rw [Nat.zero_add] at h1
    exact ⟨i, h1, h2, h3, h4, h5⟩
  zero1 t z n b h := by
    obtain ⟨i, _, _, _, _, _, h6⟩ := all_at _ _ info_all t (z, n, b) h
    exact List.all_eq_true.1 h6
  fn f fn h := by
    obtain ⟨h1, h2⟩ := all_at _ _ fn_all f fn h
    rw [Nat.zero_add] at h1
    exact ⟨h1, h2⟩
  ty t τ h := by
    obtain ⟨i, h1, h2, h3⟩ := all_at _ _ ty_all t τ h
    rw [Nat.zero_add] at h1
    exact ⟨i, h1, h2, Nat.le_of_ble_eq_true h3⟩
  mixed := mixed
  eqs t ts h := by have := all_at _ _ eqs_all t ts h; rw [Nat.zero_add] at this; exact this
  ext := ext_all
end Go.Proofs.GR.T

