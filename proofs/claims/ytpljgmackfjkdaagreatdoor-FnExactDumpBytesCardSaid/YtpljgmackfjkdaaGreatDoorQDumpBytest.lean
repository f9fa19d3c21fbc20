/-
  No statement is proved here: the tables of the program, and that they tell it.
  No condition.
-/
import Derived.Test.YtpljgmackfjkdaaGreatDoorProg
import Derived.Test.YtpljgmackfjkdaaGreatDoorQDumpBytesd
import Derived.KernelRfl
namespace Go.Proofs.GR.T
open Go.Proofs
noncomputable def undL : List (Option TypeDesc) := [none, none, none, some (.int .i64), some (.bool), some (.int .u8), none, none, none, some (.string), none, none, none, none, none, none, none, none, none, none, none, none, none, none, some (.slice 68), some (.slice 72), none, none, none, some (.slice 3), none, none, none, none, some (.slice 79), none, some (.slice 85), none, none, none, none, none, none, none, none, some (.slice 5), none, none, none, none, none, some (.slice 133), none, none, none, none, none, some (.slice 135), none, none, none, none, none, none, none, some (.slice 144), some (.slice 146), none, some (.struct #[⟨ "Name", 9, 0, false, "", "", 0⟩, ⟨ "Columns", 65, 1, false, "", "", 16⟩, ⟨ "Key", 3, 2, false, "", "", 40⟩, ⟨ "Indexes", 66, 3, false, "", "", 48⟩]), none, some (.slice 51), none, some (.struct #[⟨ "Name", 9, 0, false, "", "", 0⟩, ⟨ "Rows", 70, 1, false, "", "", 16⟩]), none, none, none, some (.slice 128), some (.slice 115), none, some (.struct #[⟨ "Name", 9, 0, false, "", "", 0⟩, ⟨ "Columns", 76, 1, false, "", "", 16⟩, ⟨ "Key", 3, 2, false, "", "", 40⟩, ⟨ "Indexes", 77, 3, false, "", "", 48⟩]), none, some (.slice 57), none, none, none, some (.struct #[⟨ "Name", 9, 0, false, "", "", 0⟩, ⟨ "Rows", 81, 1, false, "", "", 16⟩]), none, none, none, none, none, none, none, none, none, none, none, none, none, none, none, none, none, none, none, none, none, none, none, none, none, none, none, none, none, some (.struct #[⟨ "Name", 9, 0, false, "", "", 0⟩, ⟨ "Columns", 29, 1, false, "", "", 16⟩]), none, none, none, none, none, none, none, none, none, none, none, none, some (.struct #[⟨ "Name", 9, 0, false, "", "", 0⟩, ⟨ "Type", 3, 1, false, "", "", 16⟩, ⟨ "Null", 4, 2, false, "", "", 24⟩]), none, none, none, none, some (.struct #[⟨ "Kind", 3, 0, false, "", "", 0⟩, ⟨ "N", 3, 1, false, "", "", 8⟩, ⟨ "T", 9, 2, false, "", "", 16⟩]), none, some (.struct #[⟨ "Kind", 3, 0, false, "", "", 0⟩, ⟨ "N", 3, 1, false, "", "", 8⟩, ⟨ "T", 9, 2, false, "", "", 16⟩]), none, none, none, none, none, none, none, none, some (.struct #[⟨ "Name", 9, 0, false, "", "", 0⟩, ⟨ "Type", 3, 1, false, "", "", 16⟩, ⟨ "Null", 4, 2, false, "", "", 24⟩]), none, some (.struct #[⟨ "Name", 9, 0, false, "", "", 0⟩, ⟨ "Columns", 29, 1, false, "", "", 16⟩]), none, none, none, none, none, none, none, none, none, none, none, none, none, some (.slice 9), none, none, some (.int .u64), none, some (.int .u64), none, none, none, none, none, none, none, none, none, none, none, none, none, none]
noncomputable def infoL : List (Option (Value × Nat × Nat)) := [none, none, none, some ((.int .i64 0, 1, 8)), some ((.bool false, 1, 1)), some ((.int .u8 0, 1, 1)), none, none, none, some ((.string ByteArray.empty, 1, 16)), none, none, none, none, none, none, none, none, none, none, none, none, none, none, some ((.slice none 0 0, 1, 24)), some ((.slice none 0 0, 1, 24)), none, none, none, some ((.slice none 0 0, 1, 24)), none, none, none, none, some ((.slice none 0 0, 1, 24)), none, some ((.slice none 0 0, 1, 24)), none, none, none, none, none, none, none, none, some ((.slice none 0 0, 1, 24)), none, none, none, none, none, some ((.slice none 0 0, 1, 24)), none, none, none, none, none, some ((.slice none 0 0, 1, 24)), none, none, none, none, none, none, none, some ((.slice none 0 0, 1, 24)), some ((.slice none 0 0, 1, 24)), none, some ((.agg #[.string ByteArray.empty, .slice none 0 0, .int .i64 0, .slice none 0 0], 4, 72)), none, some ((.slice none 0 0, 1, 24)), none, some ((.agg #[.string ByteArray.empty, .slice none 0 0], 2, 40)), none, none, none, some ((.slice none 0 0, 1, 24)), some ((.slice none 0 0, 1, 24)), none, some ((.agg #[.string ByteArray.empty, .slice none 0 0, .int .i64 0, .slice none 0 0], 4, 72)), none, some ((.slice none 0 0, 1, 24)), none, none, none, some ((.agg #[.string ByteArray.empty, .slice none 0 0], 2, 40)), none, none, none, none, none, none, none, none, none, none, none, none, none, none, none, none, none, none, none, none, none, none, none, none, none, none, none, none, none, some ((.agg #[.string ByteArray.empty, .slice none 0 0], 2, 40)), none, none, none, none, none, none, none, none, none, none, none, none, some ((.agg #[.string ByteArray.empty, .int .i64 0, .bool false], 3, 32)), none, none, none, none, some ((.agg #[.int .i64 0, .int .i64 0, .string ByteArray.empty], 3, 32)), none, some ((.agg #[.int .i64 0, .int .i64 0, .string ByteArray.empty], 3, 32)), none, none, none, none, none, none, none, none, some ((.agg #[.string ByteArray.empty, .int .i64 0, .bool false], 3, 32)), none, some ((.agg #[.string ByteArray.empty, .slice none 0 0], 2, 40)), none, none, none, none, none, none, none, none, none, none, none, none, none, some ((.slice none 0 0, 1, 24)), none, none, some ((.int .u64 0, 1, 8)), none, some ((.int .u64 0, 1, 8)), none, none, none, none, none, none, none, none, none, none, none, none, none, none]
noncomputable def tyL : List (Option Ty) := [none, none, none, some ((.int .i64)), some (.bool), some ((.int .u8)), none, none, none, some (.str), none, none, none, none, none, none, none, none, none, none, none, none, none, none, some ((.slice (.pair .str (.pair (.slice (.pair .str (.pair (.int .i64) .bool))) (.pair (.int .i64) (.slice (.pair .str (.slice (.int .i64))))))))), some ((.slice (.pair .str (.slice (.slice (.pair (.int .i64) (.pair (.int .i64) .str))))))), none, none, none, some ((.slice (.int .i64))), none, none, none, none, some ((.slice (.pair .str (.pair (.slice (.pair .str (.pair (.int .i64) .bool))) (.pair (.int .i64) (.slice (.pair .str (.slice (.int .i64))))))))), none, some ((.slice (.pair .str (.slice (.slice (.pair (.int .i64) (.pair (.int .i64) .str))))))), none, none, none, none, none, none, none, none, some ((.slice (.int .u8))), none, none, none, none, none, some ((.slice (.pair (.int .i64) (.pair (.int .i64) .str)))), none, none, none, none, none, some ((.slice (.pair (.int .i64) (.pair (.int .i64) .str)))), none, none, none, none, none, none, none, some ((.slice (.pair .str (.pair (.int .i64) .bool)))), some ((.slice (.pair .str (.slice (.int .i64))))), none, some ((.pair .str (.pair (.slice (.pair .str (.pair (.int .i64) .bool))) (.pair (.int .i64) (.slice (.pair .str (.slice (.int .i64)))))))), none, some ((.slice (.slice (.pair (.int .i64) (.pair (.int .i64) .str))))), none, some ((.pair .str (.slice (.slice (.pair (.int .i64) (.pair (.int .i64) .str)))))), none, none, none, some ((.slice (.pair .str (.pair (.int .i64) .bool)))), some ((.slice (.pair .str (.slice (.int .i64))))), none, some ((.pair .str (.pair (.slice (.pair .str (.pair (.int .i64) .bool))) (.pair (.int .i64) (.slice (.pair .str (.slice (.int .i64)))))))), none, some ((.slice (.slice (.pair (.int .i64) (.pair (.int .i64) .str))))), none, none, none, some ((.pair .str (.slice (.slice (.pair (.int .i64) (.pair (.int .i64) .str)))))), none, none, none, none, none, none, none, none, none, none, none, none, none, none, none, none, none, none, none, none, none, none, none, none, none, none, none, none, none, some ((.pair .str (.slice (.int .i64)))), none, none, none, none, none, none, none, none, none, none, none, none, some ((.pair .str (.pair (.int .i64) .bool))), none, none, none, none, some ((.pair (.int .i64) (.pair (.int .i64) .str))), none, some ((.pair (.int .i64) (.pair (.int .i64) .str))), none, none, none, none, none, none, none, none, some ((.pair .str (.pair (.int .i64) .bool))), none, some ((.pair .str (.slice (.int .i64)))), none, none, none, none, none, none, none, none, none, none, none, none, none, some ((.slice .str)), none, none, some ((.int .u64)), none, some ((.int .u64)), none, none, none, none, none, none, none, none, none, none, none, none, none, none]
noncomputable def eqL : List (Option (List Ty)) := [none, none, none, none, none, none, none, none, none, none, none, none, none, none, none, none, none, none, none, none, none, none, none, none, none, none, none, none, none, none, none, none, none, none, none, none, none, none, none, none, none, none, none, none, none, none, none, none, none, none, none, none, none, none, none, none, none, none, none, none, none, none, none, none, none, none, none, none, none, none, none, none, none, none, none, none, none, none, none, none, none, none, none, none, none, none, none, none, none, none, none, none, none, none, none, none, none, none, none, none, none, none, none, none, none, none, none, none, none, none, none, none, none, none, none, none, none, none, none, none, none, none, none, none, none, none, none, none, none, none, none, none, none, none, none, none, none, none, none, none, none, none, none, none, none, none, none, none, none, none, none, none, none, none, none, none, none, none, none, none, none, none, none, none, none, none, none, none, none, none, none, none, none, none, none, none, none, none, none, none]
noncomputable def fnL : List (Option Func) := [none, none, none, none, some Tryz.f4, none, none, some Tryz.f7, some Tryz.f8, none, none, some Tryz.f11, some Tryz.f12, none, some Tryz.f14, some Tryz.f15, some Tryz.f16, some Tryz.f17, some Tryz.f18, some Tryz.f19, none, some Tryz.f21, some Tryz.f22, some Tryz.f23, some Tryz.f24, some Tryz.f25, none, none, none, none, none, none, none, some Tryz.f33, some Tryz.f34, some Tryz.f35, none, none, none, none, some Tryz.f40, some Tryz.f41, some Tryz.f42, none, none, some Tryz.f45, some Tryz.f46, some Tryz.f47, some Tryz.f48, some Tryz.f49, some Tryz.f50, some Tryz.f51, some Tryz.f52, some Tryz.f53, none, none, none, some Tryz.f57, none, none, none, some Tryz.f61, some Tryz.f62, none, some Tryz.f64, some Tryz.f65, some Tryz.f66, some Tryz.f67, some Tryz.f68, some Tryz.f69, some Tryz.f70, some Tryz.f71, none, none, none, some Tryz.f75, some Tryz.f76, some Tryz.f77, some Tryz.f78, some Tryz.f79, none, some Tryz.f81, some Tryz.f82, none, none, some Tryz.f85, some Tryz.f86, some Tryz.f87, some Tryz.f88, some Tryz.f89, some Tryz.f90, some Tryz.f91, some Tryz.f92, some Tryz.f93, none, some Tryz.f95, none, some Tryz.f97, some Tryz.f98, none, none, none, none, none, none, some Tryz.f105, none, some Tryz.f107, some Tryz.f108, some Tryz.f109, some Tryz.f110, some Tryz.f111, some Tryz.f112, some Tryz.f113, some Tryz.f114, some Tryz.f115, some Tryz.f116, some Tryz.f117, none, none, none, none, some Tryz.f122, some Tryz.f123, some Tryz.f124, some Tryz.f125, some Tryz.f126, some Tryz.f127, none, some Tryz.f129, some Tryz.f130, some Tryz.f131, some Tryz.f132, some Tryz.f133, some Tryz.f134, some Tryz.f135, none, none, none, none, none, none, some Tryz.f142, some Tryz.f143, some Tryz.f144, some Tryz.f145, some Tryz.f146, some Tryz.f147, some Tryz.f148, some Tryz.f149, some Tryz.f150, some Tryz.f151, some Tryz.f152, none, none, none, none, none, none, none, some Tryz.f160, none, none, none, some Tryz.f164, some Tryz.f165, some Tryz.f166, some Tryz.f167, some Tryz.f168, some Tryz.f169, some Tryz.f170, some Tryz.f171, some Tryz.f172, some Tryz.f173, some Tryz.f174, some Tryz.f175, some Tryz.f176, none, none, none, none, none, none, some Tryz.f183, some Tryz.f184, some Tryz.f185, some Tryz.f186, none, some Tryz.f188, some Tryz.f189, none, none, none, none, none, none, some Tryz.f196, some Tryz.f197, none, some Tryz.f199]
noncomputable def modeL : List (Nat × List Mode) := [(17, [.wr]), (18, [.wr]), (19, [.wr]), (24, [.wr]), (48, [.wr]), (49, [.wr]), (50, [.wr]), (62, [.wr])]
noncomputable def liveL : List (Nat × List (Nat × List Nat)) := [(7, [(0, [0, 1, 5])]), (8, [(0, [0, 1, 5])]), (11, [(0, [0, 3, 4])]), (12, [(0, [0, 3, 4])]), (14, [(0, [0, 1, 5])]), (15, [(0, [0, 1, 5])]), (16, [(0, [0, 1, 5])]), (17, [(0, [0, 1, 5])]), (18, [(0, [0, 1, 5])]), (19, [(0, [0, 1, 5])]), (23, [(0, [0, 1, 5])]), (24, [(0, [0, 1, 5])]), (25, [(0, [0, 1, 5])]), (35, [(2, [0, 1, 5, 6]), (0, [0, 1, 5])]), (42, [(0, [0, 17, 18, 19])]), (47, [(0, [0, 3])]), (48, [(0, [0, 1, 5])]), (49, [(0, [0, 1, 5])]), (50, [(0, [0, 1, 5])]), (51, [(2, [0, 1, 5, 6, 8, 9]), (0, [0, 1, 5, 6])]), (52, [(2, [1, 5, 15, 16, 17, 45, 46, 47]), (0, [1, 5, 15, 16, 17])]), (53, [(0, [0, 1, 5])]), (57, [(0, [0, 3, 4])]), (61, [(0, [0, 1, 5])]), (62, [(0, [0, 1, 5])]), (64, [(0, [0, 1, 5])]), (65, [(0, [0, 1, 5])]), (66, [(0, [0, 1, 5])]), (67, [(0, [0, 3])]), (68, [(0, [0, 3])]), (69, [(0, [1, 2, 6])]), (70, [(0, [0, 1, 5])]), (75, [(0, [0, 3, 4])]), (76, [(0, [0, 3, 4])]), (77, [(0, [0, 3, 4])]), (78, [(0, [0, 5, 6, 7])]), (79, [(0, [1, 2, 9, 10, 11])]), (85, [(0, [0, 1, 5])]), (86, [(0, [0, 1, 5])]), (87, [(0, [0, 1, 5])]), (88, [(4, [1, 3, 5, 6]), (2, [1, 3, 5]), (0, [1, 3, 4])]), (89, [(0, [0, 3, 4])]), (90, [(4, [1, 7, 9, 10, 51, 52, 53, 59, 60, 61]), (2, [1, 7, 51, 52, 53]), (0, [1, 3, 15, 16, 17])]), (92, [(0, [3, 10, 11, 12])]), (98, [(0, [1, 16, 17, 18])]), (109, [(2, [1, 5]), (0, [1, 3])]), (114, [(0, [0, 3, 4])]), (117, [(2, [1, 64, 65, 66]), (0, [1, 34, 35, 36])]), (122, [(0, [3, 7, 8, 9])]), (130, [(0, [0, 1, 5, 10, 11])]), (143, [(0, [0, 3])]), (144, [(0, [0, 1, 5])]), (145, [(0, [2, 3, 5])]), (146, [(0, [0, 1, 5])]), (147, [(0, [0, 3, 4])]), (160, [(0, [0, 1, 7, 8])]), (166, [(0, [0, 1, 5])]), (167, [(0, [0, 5, 6])]), (170, [(0, [0, 1, 7, 8])]), (172, [(0, [0, 5, 6, 7])]), (175, [(0, [0, 1, 7, 8])]), (183, [(0, [0, 3])]), (186, [(0, [0, 1, 7, 8])]), (189, [(0, [0, 1, 7, 8])]), (199, [(0, [0, 1, 7, 8])])]
noncomputable def outsL : List (Nat × List Bool) := [(11, [true]), (12, [true]), (21, [true, false]), (22, [true, false]), (40, [true]), (41, [true]), (51, [true]), (52, [true]), (57, [true]), (75, [true]), (76, [true]), (77, [true]), (82, [true]), (89, [true]), (91, [true]), (92, [true]), (114, [true]), (116, [true]), (122, [true]), (125, [true]), (127, [true]), (130, [true]), (147, [true]), (165, [true]), (169, [true])]
def find {α : Type} (d : α) : List (Nat × α) → Nat → α
  | [], _ => d
  | p :: l, n => bif Nat.beq p.1 n then p.2 else find d l n
def join {α : Type} : Option (Option α) → Option α
  | some x => x
  | none => none
def extL : List Nat := [187, 155, 118, 128, 159]
noncomputable def Γ : Tab := { fn := fun f => join (lat? fnL f), und := fun t => join (lat? undL t), info := fun t => join (lat? infoL t), ty := fun t => join (lat? tyL t), mode := find [] modeL, live := fun f b => find [] (find [] liveL f) b, outs := find [] outsL, extb := fun f => lhas extL f, eqs := fun t => join (lat? eqL t), gls := [(0, intAt0)] }
end Go.Proofs.GR.T

namespace Go.Proofs.GR.T
open Go.Proofs
def AllT {α : Type} (Q : Nat → α → Prop) : Nat → List (Option α) → Prop
  | _, [] => True
  | i, none :: r => AllT Q (i + 1) r
  | i, some d :: r => Q i d ∧ AllT Q (i + 1) r
theorem all_at {α : Type} {Q : Nat → α → Prop} : ∀ (l : List (Option α)) (i : Nat), AllT Q i l → ∀ (t : Nat) (d : α), join (lat? l t) = some d → Q (i + t) d
  | [], i, _, t, d, h => by cases t <;> cases h
  | none :: r, i, ha, 0, d, h => by cases h
  | none :: r, i, ha, t + 1, d, h => by have := all_at r (i + 1) ha t d h; rw [show i + (t + 1) = i + 1 + t by omega]; exact this
  | some x :: r, i, ha, 0, d, h => by cases h; exact ha.1
  | some x :: r, i, ha, t + 1, d, h => by have := all_at r (i + 1) ha.2 t d h; rw [show i + (t + 1) = i + 1 + t by omega]; exact this
def InfoQ (t : Nat) (x : Value × Nat × Nat) : Prop := ∃ i, Tryz.prog.info? t = some i ∧ i.zero = some x.1 ∧ i.size = x.2.1 ∧ i.bytes = x.2.2 ∧ x.1.cells.size = x.2.1 ∧ x.1.cells.toList.all Value.oneCell' = true
def TyQ (t : Nat) (τ : Ty) : Prop := ∃ i, Tryz.prog.info? t = some i ∧ i.size = τ.sz ∧ Nat.blt 0 τ.sz = true
def FnQ (f : Nat) (fn : Func) : Prop := Tryz.prog.funcs[f]? = some fn ∧ (fn.name == "runtime.NumGoroutine") = false
theorem inf3 : Tryz.prog.info? 3 = some Tryz.t3 := by kernel_rfl
theorem inf4 : Tryz.prog.info? 4 = some Tryz.t4 := by kernel_rfl
theorem inf5 : Tryz.prog.info? 5 = some Tryz.t5 := by kernel_rfl
theorem inf9 : Tryz.prog.info? 9 = some Tryz.t9 := by kernel_rfl
theorem inf24 : Tryz.prog.info? 24 = some Tryz.t24 := by kernel_rfl
theorem inf25 : Tryz.prog.info? 25 = some Tryz.t25 := by kernel_rfl
theorem inf29 : Tryz.prog.info? 29 = some Tryz.t29 := by kernel_rfl
theorem inf34 : Tryz.prog.info? 34 = some Tryz.t34 := by kernel_rfl
theorem inf36 : Tryz.prog.info? 36 = some Tryz.t36 := by kernel_rfl
theorem inf45 : Tryz.prog.info? 45 = some Tryz.t45 := by kernel_rfl
theorem inf51 : Tryz.prog.info? 51 = some Tryz.t51 := by kernel_rfl
theorem inf57 : Tryz.prog.info? 57 = some Tryz.t57 := by kernel_rfl
theorem inf65 : Tryz.prog.info? 65 = some Tryz.t65 := by kernel_rfl
theorem inf66 : Tryz.prog.info? 66 = some Tryz.t66 := by kernel_rfl
theorem inf68 : Tryz.prog.info? 68 = some Tryz.t68 := by kernel_rfl
theorem inf70 : Tryz.prog.info? 70 = some Tryz.t70 := by kernel_rfl
theorem inf72 : Tryz.prog.info? 72 = some Tryz.t72 := by kernel_rfl
theorem inf76 : Tryz.prog.info? 76 = some Tryz.t76 := by kernel_rfl
theorem inf77 : Tryz.prog.info? 77 = some Tryz.t77 := by kernel_rfl
theorem inf79 : Tryz.prog.info? 79 = some Tryz.t79 := by kernel_rfl
theorem inf81 : Tryz.prog.info? 81 = some Tryz.t81 := by kernel_rfl
theorem inf85 : Tryz.prog.info? 85 = some Tryz.t85 := by kernel_rfl
theorem inf115 : Tryz.prog.info? 115 = some Tryz.t115 := by kernel_rfl
theorem inf128 : Tryz.prog.info? 128 = some Tryz.t128 := by kernel_rfl
theorem inf133 : Tryz.prog.info? 133 = some Tryz.t133 := by kernel_rfl
theorem inf135 : Tryz.prog.info? 135 = some Tryz.t135 := by kernel_rfl
theorem inf144 : Tryz.prog.info? 144 = some Tryz.t144 := by kernel_rfl
theorem inf146 : Tryz.prog.info? 146 = some Tryz.t146 := by kernel_rfl
theorem inf160 : Tryz.prog.info? 160 = some Tryz.t160 := by kernel_rfl
theorem inf163 : Tryz.prog.info? 163 = some Tryz.t163 := by kernel_rfl
theorem inf165 : Tryz.prog.info? 165 = some Tryz.t165 := by kernel_rfl
theorem fnm4 : (Tryz.f4.name == "runtime.NumGoroutine") = false := by kernel_rfl
theorem fnm7 : (Tryz.f7.name == "runtime.NumGoroutine") = false := by kernel_rfl
theorem fnm8 : (Tryz.f8.name == "runtime.NumGoroutine") = false := by kernel_rfl
theorem fnm11 : (Tryz.f11.name == "runtime.NumGoroutine") = false := by kernel_rfl
theorem fnm12 : (Tryz.f12.name == "runtime.NumGoroutine") = false := by kernel_rfl
theorem fnm14 : (Tryz.f14.name == "runtime.NumGoroutine") = false := by kernel_rfl
theorem fnm15 : (Tryz.f15.name == "runtime.NumGoroutine") = false := by kernel_rfl
theorem fnm16 : (Tryz.f16.name == "runtime.NumGoroutine") = false := by kernel_rfl
theorem fnm17 : (Tryz.f17.name == "runtime.NumGoroutine") = false := by kernel_rfl
theorem fnm18 : (Tryz.f18.name == "runtime.NumGoroutine") = false := by kernel_rfl
theorem fnm19 : (Tryz.f19.name == "runtime.NumGoroutine") = false := by kernel_rfl
theorem fnm21 : (Tryz.f21.name == "runtime.NumGoroutine") = false := by kernel_rfl
theorem fnm22 : (Tryz.f22.name == "runtime.NumGoroutine") = false := by kernel_rfl
theorem fnm23 : (Tryz.f23.name == "runtime.NumGoroutine") = false := by kernel_rfl
theorem fnm24 : (Tryz.f24.name == "runtime.NumGoroutine") = false := by kernel_rfl
theorem fnm25 : (Tryz.f25.name == "runtime.NumGoroutine") = false := by kernel_rfl
theorem fnm33 : (Tryz.f33.name == "runtime.NumGoroutine") = false := by kernel_rfl
theorem fnm34 : (Tryz.f34.name == "runtime.NumGoroutine") = false := by kernel_rfl
theorem fnm35 : (Tryz.f35.name == "runtime.NumGoroutine") = false := by kernel_rfl
theorem fnm40 : (Tryz.f40.name == "runtime.NumGoroutine") = false := by kernel_rfl
theorem fnm41 : (Tryz.f41.name == "runtime.NumGoroutine") = false := by kernel_rfl
theorem fnm42 : (Tryz.f42.name == "runtime.NumGoroutine") = false := by kernel_rfl
theorem fnm45 : (Tryz.f45.name == "runtime.NumGoroutine") = false := by kernel_rfl
theorem fnm46 : (Tryz.f46.name == "runtime.NumGoroutine") = false := by kernel_rfl
theorem fnm47 : (Tryz.f47.name == "runtime.NumGoroutine") = false := by kernel_rfl
theorem fnm48 : (Tryz.f48.name == "runtime.NumGoroutine") = false := by kernel_rfl
theorem fnm49 : (Tryz.f49.name == "runtime.NumGoroutine") = false := by kernel_rfl
theorem fnm50 : (Tryz.f50.name == "runtime.NumGoroutine") = false := by kernel_rfl
theorem fnm51 : (Tryz.f51.name == "runtime.NumGoroutine") = false := by kernel_rfl
theorem fnm52 : (Tryz.f52.name == "runtime.NumGoroutine") = false := by kernel_rfl
theorem fnm53 : (Tryz.f53.name == "runtime.NumGoroutine") = false := by kernel_rfl
theorem fnm57 : (Tryz.f57.name == "runtime.NumGoroutine") = false := by kernel_rfl
theorem fnm61 : (Tryz.f61.name == "runtime.NumGoroutine") = false := by kernel_rfl
theorem fnm62 : (Tryz.f62.name == "runtime.NumGoroutine") = false := by kernel_rfl
theorem fnm64 : (Tryz.f64.name == "runtime.NumGoroutine") = false := by kernel_rfl
theorem fnm65 : (Tryz.f65.name == "runtime.NumGoroutine") = false := by kernel_rfl
theorem fnm66 : (Tryz.f66.name == "runtime.NumGoroutine") = false := by kernel_rfl
theorem fnm67 : (Tryz.f67.name == "runtime.NumGoroutine") = false := by kernel_rfl
theorem fnm68 : (Tryz.f68.name == "runtime.NumGoroutine") = false := by kernel_rfl
theorem fnm69 : (Tryz.f69.name == "runtime.NumGoroutine") = false := by kernel_rfl
theorem fnm70 : (Tryz.f70.name == "runtime.NumGoroutine") = false := by kernel_rfl
theorem fnm71 : (Tryz.f71.name == "runtime.NumGoroutine") = false := by kernel_rfl
theorem fnm75 : (Tryz.f75.name == "runtime.NumGoroutine") = false := by kernel_rfl
theorem fnm76 : (Tryz.f76.name == "runtime.NumGoroutine") = false := by kernel_rfl
theorem fnm77 : (Tryz.f77.name == "runtime.NumGoroutine") = false := by kernel_rfl
theorem fnm78 : (Tryz.f78.name == "runtime.NumGoroutine") = false := by kernel_rfl
theorem fnm79 : (Tryz.f79.name == "runtime.NumGoroutine") = false := by kernel_rfl
theorem fnm81 : (Tryz.f81.name == "runtime.NumGoroutine") = false := by kernel_rfl
theorem fnm82 : (Tryz.f82.name == "runtime.NumGoroutine") = false := by kernel_rfl
theorem fnm85 : (Tryz.f85.name == "runtime.NumGoroutine") = false := by kernel_rfl
theorem fnm86 : (Tryz.f86.name == "runtime.NumGoroutine") = false := by kernel_rfl
theorem fnm87 : (Tryz.f87.name == "runtime.NumGoroutine") = false := by kernel_rfl
theorem fnm88 : (Tryz.f88.name == "runtime.NumGoroutine") = false := by kernel_rfl
theorem fnm89 : (Tryz.f89.name == "runtime.NumGoroutine") = false := by kernel_rfl
theorem fnm90 : (Tryz.f90.name == "runtime.NumGoroutine") = false := by kernel_rfl
theorem fnm91 : (Tryz.f91.name == "runtime.NumGoroutine") = false := by kernel_rfl
theorem fnm92 : (Tryz.f92.name == "runtime.NumGoroutine") = false := by kernel_rfl
theorem fnm93 : (Tryz.f93.name == "runtime.NumGoroutine") = false := by kernel_rfl
theorem fnm95 : (Tryz.f95.name == "runtime.NumGoroutine") = false := by kernel_rfl
theorem fnm97 : (Tryz.f97.name == "runtime.NumGoroutine") = false := by kernel_rfl
theorem fnm98 : (Tryz.f98.name == "runtime.NumGoroutine") = false := by kernel_rfl
theorem fnm105 : (Tryz.f105.name == "runtime.NumGoroutine") = false := by kernel_rfl
theorem fnm107 : (Tryz.f107.name == "runtime.NumGoroutine") = false := by kernel_rfl
theorem fnm108 : (Tryz.f108.name == "runtime.NumGoroutine") = false := by kernel_rfl
theorem fnm109 : (Tryz.f109.name == "runtime.NumGoroutine") = false := by kernel_rfl
theorem fnm110 : (Tryz.f110.name == "runtime.NumGoroutine") = false := by kernel_rfl
theorem fnm111 : (Tryz.f111.name == "runtime.NumGoroutine") = false := by kernel_rfl
theorem fnm112 : (Tryz.f112.name == "runtime.NumGoroutine") = false := by kernel_rfl
theorem fnm113 : (Tryz.f113.name == "runtime.NumGoroutine") = false := by kernel_rfl
theorem fnm114 : (Tryz.f114.name == "runtime.NumGoroutine") = false := by kernel_rfl
theorem fnm115 : (Tryz.f115.name == "runtime.NumGoroutine") = false := by kernel_rfl
theorem fnm116 : (Tryz.f116.name == "runtime.NumGoroutine") = false := by kernel_rfl
theorem fnm117 : (Tryz.f117.name == "runtime.NumGoroutine") = false := by kernel_rfl
theorem fnm122 : (Tryz.f122.name == "runtime.NumGoroutine") = false := by kernel_rfl
theorem fnm123 : (Tryz.f123.name == "runtime.NumGoroutine") = false := by kernel_rfl
theorem fnm124 : (Tryz.f124.name == "runtime.NumGoroutine") = false := by kernel_rfl
theorem fnm125 : (Tryz.f125.name == "runtime.NumGoroutine") = false := by kernel_rfl
theorem fnm126 : (Tryz.f126.name == "runtime.NumGoroutine") = false := by kernel_rfl
theorem fnm127 : (Tryz.f127.name == "runtime.NumGoroutine") = false := by kernel_rfl
theorem fnm129 : (Tryz.f129.name == "runtime.NumGoroutine") = false := by kernel_rfl
theorem fnm130 : (Tryz.f130.name == "runtime.NumGoroutine") = false := by kernel_rfl
theorem fnm131 : (Tryz.f131.name == "runtime.NumGoroutine") = false := by kernel_rfl
theorem fnm132 : (Tryz.f132.name == "runtime.NumGoroutine") = false := by kernel_rfl
theorem fnm133 : (Tryz.f133.name == "runtime.NumGoroutine") = false := by kernel_rfl
theorem fnm134 : (Tryz.f134.name == "runtime.NumGoroutine") = false := by kernel_rfl
theorem fnm135 : (Tryz.f135.name == "runtime.NumGoroutine") = false := by kernel_rfl
theorem fnm142 : (Tryz.f142.name == "runtime.NumGoroutine") = false := by kernel_rfl
theorem fnm143 : (Tryz.f143.name == "runtime.NumGoroutine") = false := by kernel_rfl
theorem fnm144 : (Tryz.f144.name == "runtime.NumGoroutine") = false := by kernel_rfl
theorem fnm145 : (Tryz.f145.name == "runtime.NumGoroutine") = false := by kernel_rfl
theorem fnm146 : (Tryz.f146.name == "runtime.NumGoroutine") = false := by kernel_rfl
theorem fnm147 : (Tryz.f147.name == "runtime.NumGoroutine") = false := by kernel_rfl
theorem fnm148 : (Tryz.f148.name == "runtime.NumGoroutine") = false := by kernel_rfl
theorem fnm149 : (Tryz.f149.name == "runtime.NumGoroutine") = false := by kernel_rfl
theorem fnm150 : (Tryz.f150.name == "runtime.NumGoroutine") = false := by kernel_rfl
theorem fnm151 : (Tryz.f151.name == "runtime.NumGoroutine") = false := by kernel_rfl
theorem fnm152 : (Tryz.f152.name == "runtime.NumGoroutine") = false := by kernel_rfl
theorem fnm160 : (Tryz.f160.name == "runtime.NumGoroutine") = false := by kernel_rfl
theorem fnm164 : (Tryz.f164.name == "runtime.NumGoroutine") = false := by kernel_rfl
theorem fnm165 : (Tryz.f165.name == "runtime.NumGoroutine") = false := by kernel_rfl
theorem fnm166 : (Tryz.f166.name == "runtime.NumGoroutine") = false := by kernel_rfl
theorem fnm167 : (Tryz.f167.name == "runtime.NumGoroutine") = false := by kernel_rfl
theorem fnm168 : (Tryz.f168.name == "runtime.NumGoroutine") = false := by kernel_rfl
theorem fnm169 : (Tryz.f169.name == "runtime.NumGoroutine") = false := by kernel_rfl
theorem fnm170 : (Tryz.f170.name == "runtime.NumGoroutine") = false := by kernel_rfl
theorem fnm171 : (Tryz.f171.name == "runtime.NumGoroutine") = false := by kernel_rfl
theorem fnm172 : (Tryz.f172.name == "runtime.NumGoroutine") = false := by kernel_rfl
theorem fnm173 : (Tryz.f173.name == "runtime.NumGoroutine") = false := by kernel_rfl
theorem fnm174 : (Tryz.f174.name == "runtime.NumGoroutine") = false := by kernel_rfl
theorem fnm175 : (Tryz.f175.name == "runtime.NumGoroutine") = false := by kernel_rfl
theorem fnm176 : (Tryz.f176.name == "runtime.NumGoroutine") = false := by kernel_rfl
theorem fnm183 : (Tryz.f183.name == "runtime.NumGoroutine") = false := by kernel_rfl
theorem fnm184 : (Tryz.f184.name == "runtime.NumGoroutine") = false := by kernel_rfl
theorem fnm185 : (Tryz.f185.name == "runtime.NumGoroutine") = false := by kernel_rfl
theorem fnm186 : (Tryz.f186.name == "runtime.NumGoroutine") = false := by kernel_rfl
theorem fnm188 : (Tryz.f188.name == "runtime.NumGoroutine") = false := by kernel_rfl
theorem fnm189 : (Tryz.f189.name == "runtime.NumGoroutine") = false := by kernel_rfl
theorem fnm196 : (Tryz.f196.name == "runtime.NumGoroutine") = false := by kernel_rfl
theorem fnm197 : (Tryz.f197.name == "runtime.NumGoroutine") = false := by kernel_rfl
theorem fnm199 : (Tryz.f199.name == "runtime.NumGoroutine") = false := by kernel_rfl
theorem und_all : AllT (fun t d => Tryz.prog.underlying t = some d) 0 undL := ⟨Tryz.underlying3, ⟨Tryz.underlying4, ⟨Tryz.underlying5, ⟨Tryz.underlying9, ⟨Tryz.underlying24, ⟨Tryz.underlying25, ⟨Tryz.underlying29, ⟨Tryz.underlying34, ⟨Tryz.underlying36, ⟨Tryz.underlying45, ⟨Tryz.underlying51, ⟨Tryz.underlying57, ⟨Tryz.underlying65, ⟨Tryz.underlying66, ⟨Tryz.underlying68, ⟨Tryz.underlying70, ⟨Tryz.underlying72, ⟨Tryz.underlying76, ⟨Tryz.underlying77, ⟨Tryz.underlying79, ⟨Tryz.underlying81, ⟨Tryz.underlying85, ⟨Tryz.underlying115, ⟨Tryz.underlying128, ⟨Tryz.underlying133, ⟨Tryz.underlying135, ⟨Tryz.underlying144, ⟨Tryz.underlying146, ⟨Tryz.underlying160, ⟨Tryz.underlying163, ⟨Tryz.underlying165, trivial⟩⟩⟩⟩⟩⟩⟩⟩⟩⟩⟩⟩⟩⟩⟩⟩⟩⟩⟩⟩⟩⟩⟩⟩⟩⟩⟩⟩⟩⟩⟩
theorem info_all : AllT InfoQ 0 infoL := ⟨⟨Tryz.t3, inf3, rfl, rfl, rfl, rfl, rfl⟩, ⟨⟨Tryz.t4, inf4, rfl, rfl, rfl, rfl, rfl⟩, ⟨⟨Tryz.t5, inf5, rfl, rfl, rfl, rfl, rfl⟩, ⟨⟨Tryz.t9, inf9, rfl, rfl, rfl, rfl, rfl⟩, ⟨⟨Tryz.t24, inf24, rfl, rfl, rfl, rfl, rfl⟩, ⟨⟨Tryz.t25, inf25, rfl, rfl, rfl, rfl, rfl⟩, ⟨⟨Tryz.t29, inf29, rfl, rfl, rfl, rfl, rfl⟩, ⟨⟨Tryz.t34, inf34, rfl, rfl, rfl, rfl, rfl⟩, ⟨⟨Tryz.t36, inf36, rfl, rfl, rfl, rfl, rfl⟩, ⟨⟨Tryz.t45, inf45, rfl, rfl, rfl, rfl, rfl⟩, ⟨⟨Tryz.t51, inf51, rfl, rfl, rfl, rfl, rfl⟩, ⟨⟨Tryz.t57, inf57, rfl, rfl, rfl, rfl, rfl⟩, ⟨⟨Tryz.t65, inf65, rfl, rfl, rfl, rfl, rfl⟩, ⟨⟨Tryz.t66, inf66, rfl, rfl, rfl, rfl, rfl⟩, ⟨⟨Tryz.t68, inf68, rfl, rfl, rfl, rfl, rfl⟩, ⟨⟨Tryz.t70, inf70, rfl, rfl, rfl, rfl, rfl⟩, ⟨⟨Tryz.t72, inf72, rfl, rfl, rfl, rfl, rfl⟩, ⟨⟨Tryz.t76, inf76, rfl, rfl, rfl, rfl, rfl⟩, ⟨⟨Tryz.t77, inf77, rfl, rfl, rfl, rfl, rfl⟩, ⟨⟨Tryz.t79, inf79, rfl, rfl, rfl, rfl, rfl⟩, ⟨⟨Tryz.t81, inf81, rfl, rfl, rfl, rfl, rfl⟩, ⟨⟨Tryz.t85, inf85, rfl, rfl, rfl, rfl, rfl⟩, ⟨⟨Tryz.t115, inf115, rfl, rfl, rfl, rfl, rfl⟩, ⟨⟨Tryz.t128, inf128, rfl, rfl, rfl, rfl, rfl⟩, ⟨⟨Tryz.t133, inf133, rfl, rfl, rfl, rfl, rfl⟩, ⟨⟨Tryz.t135, inf135, rfl, rfl, rfl, rfl, rfl⟩, ⟨⟨Tryz.t144, inf144, rfl, rfl, rfl, rfl, rfl⟩, ⟨⟨Tryz.t146, inf146, rfl, rfl, rfl, rfl, rfl⟩, ⟨⟨Tryz.t160, inf160, rfl, rfl, rfl, rfl, rfl⟩, ⟨⟨Tryz.t163, inf163, rfl, rfl, rfl, rfl, rfl⟩, ⟨⟨Tryz.t165, inf165, rfl, rfl, rfl, rfl, rfl⟩, trivial⟩⟩⟩⟩⟩⟩⟩⟩⟩⟩⟩⟩⟩⟩⟩⟩⟩⟩⟩⟩⟩⟩⟩⟩⟩⟩⟩⟩⟩⟩⟩
theorem ty_all : AllT TyQ 0 tyL := ⟨⟨Tryz.t3, inf3, rfl, rfl⟩, ⟨⟨Tryz.t4, inf4, rfl, rfl⟩, ⟨⟨Tryz.t5, inf5, rfl, rfl⟩, ⟨⟨Tryz.t9, inf9, rfl, rfl⟩, ⟨⟨Tryz.t24, inf24, rfl, rfl⟩, ⟨⟨Tryz.t25, inf25, rfl, rfl⟩, ⟨⟨Tryz.t29, inf29, rfl, rfl⟩, ⟨⟨Tryz.t34, inf34, rfl, rfl⟩, ⟨⟨Tryz.t36, inf36, rfl, rfl⟩, ⟨⟨Tryz.t45, inf45, rfl, rfl⟩, ⟨⟨Tryz.t51, inf51, rfl, rfl⟩, ⟨⟨Tryz.t57, inf57, rfl, rfl⟩, ⟨⟨Tryz.t65, inf65, rfl, rfl⟩, ⟨⟨Tryz.t66, inf66, rfl, rfl⟩, ⟨⟨Tryz.t68, inf68, rfl, rfl⟩, ⟨⟨Tryz.t70, inf70, rfl, rfl⟩, ⟨⟨Tryz.t72, inf72, rfl, rfl⟩, ⟨⟨Tryz.t76, inf76, rfl, rfl⟩, ⟨⟨Tryz.t77, inf77, rfl, rfl⟩, ⟨⟨Tryz.t79, inf79, rfl, rfl⟩, ⟨⟨Tryz.t81, inf81, rfl, rfl⟩, ⟨⟨Tryz.t85, inf85, rfl, rfl⟩, ⟨⟨Tryz.t115, inf115, rfl, rfl⟩, ⟨⟨Tryz.t128, inf128, rfl, rfl⟩, ⟨⟨Tryz.t133, inf133, rfl, rfl⟩, ⟨⟨Tryz.t135, inf135, rfl, rfl⟩, ⟨⟨Tryz.t144, inf144, rfl, rfl⟩, ⟨⟨Tryz.t146, inf146, rfl, rfl⟩, ⟨⟨Tryz.t160, inf160, rfl, rfl⟩, ⟨⟨Tryz.t163, inf163, rfl, rfl⟩, ⟨⟨Tryz.t165, inf165, rfl, rfl⟩, trivial⟩⟩⟩⟩⟩⟩⟩⟩⟩⟩⟩⟩⟩⟩⟩⟩⟩⟩⟩⟩⟩⟩⟩⟩⟩⟩⟩⟩⟩⟩⟩
set_option maxRecDepth 100000 in
theorem fn_all : AllT FnQ 0 fnL := ⟨⟨Tryz.func4, fnm4⟩, ⟨⟨Tryz.func7, fnm7⟩, ⟨⟨Tryz.func8, fnm8⟩, ⟨⟨Tryz.func11, fnm11⟩, ⟨⟨Tryz.func12, fnm12⟩, ⟨⟨Tryz.func14, fnm14⟩, ⟨⟨Tryz.func15, fnm15⟩, ⟨⟨Tryz.func16, fnm16⟩, ⟨⟨Tryz.func17, fnm17⟩, ⟨⟨Tryz.func18, fnm18⟩, ⟨⟨Tryz.func19, fnm19⟩, ⟨⟨Tryz.func21, fnm21⟩, ⟨⟨Tryz.func22, fnm22⟩, ⟨⟨Tryz.func23, fnm23⟩, ⟨⟨Tryz.func24, fnm24⟩, ⟨⟨Tryz.func25, fnm25⟩, ⟨⟨Tryz.func33, fnm33⟩, ⟨⟨Tryz.func34, fnm34⟩, ⟨⟨Tryz.func35, fnm35⟩, ⟨⟨Tryz.func40, fnm40⟩, ⟨⟨Tryz.func41, fnm41⟩, ⟨⟨Tryz.func42, fnm42⟩, ⟨⟨Tryz.func45, fnm45⟩, ⟨⟨Tryz.func46, fnm46⟩, ⟨⟨Tryz.func47, fnm47⟩, ⟨⟨Tryz.func48, fnm48⟩, ⟨⟨Tryz.func49, fnm49⟩, ⟨⟨Tryz.func50, fnm50⟩, ⟨⟨Tryz.func51, fnm51⟩, ⟨⟨Tryz.func52, fnm52⟩, ⟨⟨Tryz.func53, fnm53⟩, ⟨⟨Tryz.func57, fnm57⟩, ⟨⟨Tryz.func61, fnm61⟩, ⟨⟨Tryz.func62, fnm62⟩, ⟨⟨Tryz.func64, fnm64⟩, ⟨⟨Tryz.func65, fnm65⟩, ⟨⟨Tryz.func66, fnm66⟩, ⟨⟨Tryz.func67, fnm67⟩, ⟨⟨Tryz.func68, fnm68⟩, ⟨⟨Tryz.func69, fnm69⟩, ⟨⟨Tryz.func70, fnm70⟩, ⟨⟨Tryz.func71, fnm71⟩, ⟨⟨Tryz.func75, fnm75⟩, ⟨⟨Tryz.func76, fnm76⟩, ⟨⟨Tryz.func77, fnm77⟩, ⟨⟨Tryz.func78, fnm78⟩, ⟨⟨Tryz.func79, fnm79⟩, ⟨⟨Tryz.func81, fnm81⟩, ⟨⟨Tryz.func82, fnm82⟩, ⟨⟨Tryz.func85, fnm85⟩, ⟨⟨Tryz.func86, fnm86⟩, ⟨⟨Tryz.func87, fnm87⟩, ⟨⟨Tryz.func88, fnm88⟩, ⟨⟨Tryz.func89, fnm89⟩, ⟨⟨Tryz.func90, fnm90⟩, ⟨⟨Tryz.func91, fnm91⟩, ⟨⟨Tryz.func92, fnm92⟩, ⟨⟨Tryz.func93, fnm93⟩, ⟨⟨Tryz.func95, fnm95⟩, ⟨⟨Tryz.func97, fnm97⟩, ⟨⟨Tryz.func98, fnm98⟩, ⟨⟨Tryz.func105, fnm105⟩, ⟨⟨Tryz.func107, fnm107⟩, ⟨⟨Tryz.func108, fnm108⟩, ⟨⟨Tryz.func109, fnm109⟩, ⟨⟨Tryz.func110, fnm110⟩, ⟨⟨Tryz.func111, fnm111⟩, ⟨⟨Tryz.func112, fnm112⟩, ⟨⟨Tryz.func113, fnm113⟩, ⟨⟨Tryz.func114, fnm114⟩, ⟨⟨Tryz.func115, fnm115⟩, ⟨⟨Tryz.func116, fnm116⟩, ⟨⟨Tryz.func117, fnm117⟩, ⟨⟨Tryz.func122, fnm122⟩, ⟨⟨Tryz.func123, fnm123⟩, ⟨⟨Tryz.func124, fnm124⟩, ⟨⟨Tryz.func125, fnm125⟩, ⟨⟨Tryz.func126, fnm126⟩, ⟨⟨Tryz.func127, fnm127⟩, ⟨⟨Tryz.func129, fnm129⟩, ⟨⟨Tryz.func130, fnm130⟩, ⟨⟨Tryz.func131, fnm131⟩, ⟨⟨Tryz.func132, fnm132⟩, ⟨⟨Tryz.func133, fnm133⟩, ⟨⟨Tryz.func134, fnm134⟩, ⟨⟨Tryz.func135, fnm135⟩, ⟨⟨Tryz.func142, fnm142⟩, ⟨⟨Tryz.func143, fnm143⟩, ⟨⟨Tryz.func144, fnm144⟩, ⟨⟨Tryz.func145, fnm145⟩, ⟨⟨Tryz.func146, fnm146⟩, ⟨⟨Tryz.func147, fnm147⟩, ⟨⟨Tryz.func148, fnm148⟩, ⟨⟨Tryz.func149, fnm149⟩, ⟨⟨Tryz.func150, fnm150⟩, ⟨⟨Tryz.func151, fnm151⟩, ⟨⟨Tryz.func152, fnm152⟩, ⟨⟨Tryz.func160, fnm160⟩, ⟨⟨Tryz.func164, fnm164⟩, ⟨⟨Tryz.func165, fnm165⟩, ⟨⟨Tryz.func166, fnm166⟩, ⟨⟨Tryz.func167, fnm167⟩, ⟨⟨Tryz.func168, fnm168⟩, ⟨⟨Tryz.func169, fnm169⟩, ⟨⟨Tryz.func170, fnm170⟩, ⟨⟨Tryz.func171, fnm171⟩, ⟨⟨Tryz.func172, fnm172⟩, ⟨⟨Tryz.func173, fnm173⟩, ⟨⟨Tryz.func174, fnm174⟩, ⟨⟨Tryz.func175, fnm175⟩, ⟨⟨Tryz.func176, fnm176⟩, ⟨⟨Tryz.func183, fnm183⟩, ⟨⟨Tryz.func184, fnm184⟩, ⟨⟨Tryz.func185, fnm185⟩, ⟨⟨Tryz.func186, fnm186⟩, ⟨⟨Tryz.func188, fnm188⟩, ⟨⟨Tryz.func189, fnm189⟩, ⟨⟨Tryz.func196, fnm196⟩, ⟨⟨Tryz.func197, fnm197⟩, ⟨⟨Tryz.func199, fnm199⟩, trivial⟩⟩⟩⟩⟩⟩⟩⟩⟩⟩⟩⟩⟩⟩⟩⟩⟩⟩⟩⟩⟩⟩⟩⟩⟩⟩⟩⟩⟩⟩⟩⟩⟩⟩⟩⟩⟩⟩⟩⟩⟩⟩⟩⟩⟩⟩⟩⟩⟩⟩⟩⟩⟩⟩⟩⟩⟩⟩⟩⟩⟩⟩⟩⟩⟩⟩⟩⟩⟩⟩⟩⟩⟩⟩⟩⟩⟩⟩⟩⟩⟩⟩⟩⟩⟩⟩⟩⟩⟩⟩⟩⟩⟩⟩⟩⟩⟩⟩⟩⟩⟩⟩⟩⟩⟩⟩⟩⟩⟩⟩⟩⟩⟩⟩⟩⟩⟩⟩⟩⟩
theorem mixed : Tryz.prog.follows .mixedOrders = true := by kernel_rfl
def EqQ (t : Nat) (ts : List Ty) : Prop := Tryz.prog.underlying t = some (.struct (Tryz.prog.fieldsOf t)) ∧ Tryz.prog.stoodInHeld t = false ∧ Tryz.prog.eqGuardType Tryz.prog.depth t = false ∧ eqFsB Tryz.prog 0 (Tryz.prog.fieldsOf t).toList ts = true
theorem eqs_all : AllT EqQ 0 eqL := trivial
theorem ext_cons {a : Nat} {l : List Nat} {n : Nat} (h : lhas (a :: l) n = true) : n = a ∨ lhas l n = true := by
  have h' : (bif Nat.beq a n then true else lhas l n) = true := h
  cases hb : Nat.beq a n with
  | true => exact .inl (Nat.eq_of_beq_eq_true hb).symm
  | false => rw [hb, cond_false] at h'; exact .inr h'
theorem ext_all : ∀ f, lhas extL f = true → ∃ fn c, Tryz.prog.funcs[f]? = some fn ∧ (fn.name == "runtime.NumGoroutine") = false ∧ fn.body = some c := by
  intro f h
  rcases ext_cons h with rfl | h
  · exact ⟨Tryz.f187, _, by kernel_rfl, by kernel_rfl, rfl⟩
  rcases ext_cons h with rfl | h
  · exact ⟨Tryz.f155, _, by kernel_rfl, by kernel_rfl, rfl⟩
  rcases ext_cons h with rfl | h
  · exact ⟨Tryz.f118, _, by kernel_rfl, by kernel_rfl, rfl⟩
  rcases ext_cons h with rfl | h
  · exact ⟨Tryz.f128, _, by kernel_rfl, by kernel_rfl, rfl⟩
  rcases ext_cons h with rfl | h
  · exact ⟨Tryz.f159, _, by kernel_rfl, by kernel_rfl, rfl⟩
  cases h
theorem ok : TabOK Γ Tryz.prog where
  und t d h := by have := all_at _ _ und_all t d h; rw [Nat.zero_add] at this; exact this
  info t z n b h := by
    obtain ⟨i, h1, h2, h3, h4, h5, _⟩ := all_at _ _ info_all t (z, n, b) h
    rw [Nat.zero_add] at h1
    exact ⟨i, h1, h2, h3, h4, h5⟩
  zero1 t z n b h := by
    obtain ⟨i, _, _, _, _, _, h6⟩ := all_at _ _ info_all t (z, n, b) h
    exact List.all_eq_true.1 h6
  fn f fn h := by
    obtain ⟨h1, h2⟩ := all_at _ _ fn_all f fn h
    rw [Nat.zero_add] at h1
    exact ⟨h1, h2⟩
  ty t τ h := by
    obtain ⟨i, h1, h2, h3⟩ := all_at _ _ ty_all t τ h
    rw [Nat.zero_add] at h1
    exact ⟨i, h1, h2, Nat.le_of_ble_eq_true h3⟩
  mixed := mixed
  eqs t ts h := by have := all_at _ _ eqs_all t ts h; rw [Nat.zero_add] at this; exact this
  ext := ext_all
end Go.Proofs.GR.T

