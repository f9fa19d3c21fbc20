/-
  No statement is proved here: the tables of the program, and that they tell it.
  No condition.
-/
import Derived.Test.YtpljgmackfjkdaaProg
import Derived.Test.YtpljgmackfjkdaaQBurstd
import Derived.KernelRfl
namespace Go.Proofs.GR.T
open Go.Proofs
noncomputable def undL : List (Option TypeDesc) := [none, none, none, some (.int .i64), some (.bool), some (.int .u8), none, none, none, some (.string), none, none, none, none, none, none, none, none, none, none, none, none, some (.slice 82), some (.slice 86), none, none, some (.slice 3), some (.slice 9), none, none, none, none, none, none, none, none, none, none, none, some (.slice 5), none, none, none, none, none, none, some (.int .u64), none, none, none, none, none, none, none, none, none, none, none, none, none, none, none, none, none, none, none, some (.pointer 113), none, none, none, none, none, none, some (.int .u64), none, none, none, none, none, some (.slice 154), some (.slice 156), none, some (.struct #[⟨ "Name", 9, 0, false, "", "", 0⟩, ⟨ "Columns", 79, 1, false, "", "", 16⟩, ⟨ "Key", 3, 2, false, "", "", 40⟩, ⟨ "Indexes", 80, 3, false, "", "", 48⟩]), none, some (.slice 116), none, some (.struct #[⟨ "Name", 9, 0, false, "", "", 0⟩, ⟨ "Rows", 84, 1, false, "", "", 16⟩]), none, none, some (.struct #[⟨ "Kind", 3, 0, false, "", "", 0⟩, ⟨ "N", 3, 1, false, "", "", 8⟩, ⟨ "T", 9, 2, false, "", "", 16⟩]), none, none, none, none, none, none, none, none, none, none, none, none, none, none, none, none, none, none, none, none, none, none, none, some (.struct #[⟨ "code", 39, 0, false, "", "loop.example/g00208/spec", 0⟩, ⟨ "at", 3, 1, false, "", "loop.example/g00208/spec", 24⟩, ⟨ "seed", 3, 2, false, "", "loop.example/g00208/spec", 32⟩]), none, none, some (.slice 89), none, none, none, none, none, none, none, none, none, some (.int .u32), none, none, none, none, none, none, none, none, none, none, none, none, none, none, none, none, none, none, none, none, none, none, none, none, none, none, none, some (.struct #[⟨ "Name", 9, 0, false, "", "", 0⟩, ⟨ "Type", 3, 1, false, "", "", 16⟩, ⟨ "Null", 4, 2, false, "", "", 24⟩]), none, some (.struct #[⟨ "Name", 9, 0, false, "", "", 0⟩, ⟨ "Columns", 26, 1, false, "", "", 16⟩])]
noncomputable def infoL : List (Option (Value × Nat × Nat)) := [none, none, none, some ((.int .i64 0, 1, 8)), some ((.bool false, 1, 1)), some ((.int .u8 0, 1, 1)), none, none, none, some ((.string ByteArray.empty, 1, 16)), none, none, none, none, none, none, none, none, none, none, none, none, some ((.slice none 0 0, 1, 24)), some ((.slice none 0 0, 1, 24)), none, none, some ((.slice none 0 0, 1, 24)), some ((.slice none 0 0, 1, 24)), none, none, none, none, none, none, none, none, none, none, none, some ((.slice none 0 0, 1, 24)), none, none, none, none, none, none, some ((.int .u64 0, 1, 8)), none, none, none, none, none, none, none, none, none, none, none, none, none, none, none, none, none, none, none, some ((.pointer none, 1, 8)), none, none, none, none, none, none, some ((.int .u64 0, 1, 8)), none, none, none, none, none, some ((.slice none 0 0, 1, 24)), some ((.slice none 0 0, 1, 24)), none, some ((.agg #[.string ByteArray.empty, .slice none 0 0, .int .i64 0, .slice none 0 0], 4, 72)), none, some ((.slice none 0 0, 1, 24)), none, some ((.agg #[.string ByteArray.empty, .slice none 0 0], 2, 40)), none, none, some ((.agg #[.int .i64 0, .int .i64 0, .string ByteArray.empty], 3, 32)), none, none, none, none, none, none, none, none, none, none, none, none, none, none, none, none, none, none, none, none, none, none, none, some ((.agg #[.slice none 0 0, .int .i64 0, .int .i64 0], 3, 40)), none, none, some ((.slice none 0 0, 1, 24)), none, none, none, none, none, none, none, none, none, some ((.int .u32 0, 1, 4)), none, none, none, none, none, none, none, none, none, none, none, none, none, none, none, none, none, none, none, none, none, none, none, none, none, none, none, some ((.agg #[.string ByteArray.empty, .int .i64 0, .bool false], 3, 32)), none, some ((.agg #[.string ByteArray.empty, .slice none 0 0], 2, 40))]
noncomputable def tyL : List (Option Ty) := [none, none, none, some ((.int .i64)), some (.bool), some ((.int .u8)), none, none, none, some (.str), none, none, none, none, none, none, none, none, none, none, none, none, some ((.slice (.pair .str (.pair (.slice (.pair .str (.pair (.int .i64) .bool))) (.pair (.int .i64) (.slice (.pair .str (.slice (.int .i64))))))))), some ((.slice (.pair .str (.slice (.slice (.pair (.int .i64) (.pair (.int .i64) .str))))))), none, none, some ((.slice (.int .i64))), some ((.slice .str)), none, none, none, none, none, none, none, none, none, none, none, some ((.slice (.int .u8))), none, none, none, none, none, none, some ((.int .u64)), none, none, none, none, none, none, none, none, none, none, none, none, none, none, none, none, none, none, none, none, none, none, none, none, none, none, some ((.int .u64)), none, none, none, none, none, some ((.slice (.pair .str (.pair (.int .i64) .bool)))), some ((.slice (.pair .str (.slice (.int .i64))))), none, some ((.pair .str (.pair (.slice (.pair .str (.pair (.int .i64) .bool))) (.pair (.int .i64) (.slice (.pair .str (.slice (.int .i64)))))))), none, some ((.slice (.slice (.pair (.int .i64) (.pair (.int .i64) .str))))), none, some ((.pair .str (.slice (.slice (.pair (.int .i64) (.pair (.int .i64) .str)))))), none, none, some ((.pair (.int .i64) (.pair (.int .i64) .str))), none, none, none, none, none, none, none, none, none, none, none, none, none, none, none, none, none, none, none, none, none, none, none, some ((.pair (.slice (.int .u8)) (.pair (.int .i64) (.int .i64)))), none, none, some ((.slice (.pair (.int .i64) (.pair (.int .i64) .str)))), none, none, none, none, none, none, none, none, none, some ((.int .u32)), none, none, none, none, none, none, none, none, none, none, none, none, none, none, none, none, none, none, none, none, none, none, none, none, none, none, none, some ((.pair .str (.pair (.int .i64) .bool))), none, some ((.pair .str (.slice (.int .i64))))]
noncomputable def eqL : List (Option (List Ty)) := [none, none, none, none, none, none, none, none, none, none, none, none, none, none, none, none, none, none, none, none, none, none, none, none, none, none, none, none, none, none, none, none, none, none, none, none, none, none, none, none, none, none, none, none, none, none, none, none, none, none, none, none, none, none, none, none, none, none, none, none, none, none, none, none, none, none, none, none, none, none, none, none, none, none, none, none, none, none, none, none, none, none, none, none, none, none, none, none, none, none, none, none, none, none, none, none, none, none, none, none, none, none, none, none, none, none, none, none, none, none, none, none, none, none, none, none, none, none, none, none, none, none, none, none, none, none, none, none, none, none, none, none, none, none, none, none, none, none, none, none, none, none, none, none, none, none, none, none, none, none, none, none, none, none, none, none, none]
noncomputable def fnL : List (Option Func) := [none, none, none, none, some Try.f4, none, none, none, none, none, some Try.f10, some Try.f11, some Try.f12, some Try.f13, some Try.f14, some Try.f15, some Try.f16, some Try.f17, none, none, none, none, none, none, none, none, none, none, none, none, none, none, none, none, none, none, none, none, none, none, none, none, none, none, some Try.f44, some Try.f45, some Try.f46, some Try.f47, some Try.f48, some Try.f49, some Try.f50, some Try.f51, some Try.f52, none, none, none, none, none, none, none, none, none, none, none, none, none, none, none, none, none, none, none, none, none, none, none, none, none, some Try.f78, some Try.f79, some Try.f80, some Try.f81, some Try.f82, some Try.f83, some Try.f84, some Try.f85, some Try.f86, some Try.f87, some Try.f88, some Try.f89, some Try.f90, some Try.f91, some Try.f92, some Try.f93, some Try.f94, some Try.f95, some Try.f96, none, none, none, none, none, none, none, none, none, none, none, none, none, none, none, none, none, some Try.f114, some Try.f115, some Try.f116, some Try.f117, some Try.f118, some Try.f119, some Try.f120, some Try.f121, some Try.f122, some Try.f123, some Try.f124, none, none, none, none, none, none, none, none, none, none, none, some Try.f136, some Try.f137, some Try.f138, some Try.f139, some Try.f140, some Try.f141, none, none, some Try.f144, some Try.f145, some Try.f146, some Try.f147, some Try.f148, some Try.f149]
noncomputable def modeL : List (Nat × List Mode) := [(45, [.wr]), (48, [.wr]), (78, [.wr]), (79, [.wr]), (86, [.wr]), (88, [.em]), (89, [.wr]), (122, [.wr]), (123, [.wr]), (140, [.wr]), (141, [.wr, .tk])]
noncomputable def liveL : List (Nat × List (Nat × List Nat)) := [(4, [(0, [1, 13, 14, 15, 16])]), (46, [(2, [0, 1, 5, 6]), (0, [0, 1, 5])]), (47, [(2, [0, 1, 5, 6, 8, 9]), (0, [0, 1, 5, 6])]), (48, [(2, [0, 1, 5, 6, 7, 8]), (0, [0, 1, 5, 6])]), (51, [(0, [0, 3, 6, 7])]), (78, [(2, [0, 4, 5, 8]), (0, [0, 4, 5, 6, 7])]), (80, [(0, [0, 3])]), (81, [(0, [0, 3])]), (82, [(0, [1, 2, 6])]), (83, [(0, [0, 1, 5])]), (84, [(4, [1, 3, 5, 6]), (2, [1, 3, 5]), (0, [1, 3, 4])]), (85, [(0, [0, 3, 4])]), (88, [(0, [0, 1, 2, 7])]), (89, [(0, [0, 3, 5, 6])]), (91, [(2, [0, 3, 7, 8, 17]), (0, [0, 3, 7, 8])]), (94, [(2, [0, 3, 4, 5]), (0, [0, 3, 4])]), (95, [(0, [0, 3, 4])]), (115, [(2, [1, 5]), (0, [1, 3])]), (121, [(0, [0, 3, 4])]), (124, [(0, [0, 1, 5, 10, 11])]), (136, [(0, [0, 3])]), (137, [(0, [0, 1, 5])]), (138, [(0, [2, 3, 5])]), (139, [(0, [0, 1, 5])]), (146, [(0, [0, 1, 5])]), (147, [(0, [0, 3])])]
noncomputable def outsL : List (Nat × List Bool) := [(11, [true, false]), (13, [true, false]), (14, [true, false]), (15, [true, false]), (17, [true, false]), (44, [true]), (47, [true]), (49, [true]), (50, [true]), (52, [true, false]), (85, [true]), (92, [true]), (93, [true]), (120, [true]), (121, [true]), (124, [true]), (145, [true])]
def find {α : Type} (d : α) : List (Nat × α) → Nat → α
  | [], _ => d
  | p :: l, n => bif Nat.beq p.1 n then p.2 else find d l n
def join {α : Type} : Option (Option α) → Option α
  | some x => x
  | none => none
def extL : List Nat := [55, 56]
noncomputable def Γ : Tab := { fn := fun f => join (lat? fnL f), und := fun t => join (lat? undL t), info := fun t => join (lat? infoL t), ty := fun t => join (lat? tyL t), mode := find [] modeL, live := fun f b => find [] (find [] liveL f) b, outs := find [] outsL, extb := fun f => lhas extL f, eqs := fun t => join (lat? eqL t), gls := [] }
end Go.Proofs.GR.T

namespace Go.Proofs.GR.T
open Go.Proofs
def AllT {α : Type} (Q : Nat → α → Prop) : Nat → List (Option α) → Prop
  | _, [] => True
  | i, none :: r => AllT Q (i + 1) r
  | i, some d :: r => Q i d ∧ AllT Q (i + 1) r
theorem all_at {α : Type} {Q : Nat → α → Prop} : ∀ (l : List (Option α)) (i : Nat), AllT Q i l → ∀ (t : Nat) (d : α), join (lat? l t) = some d → Q (i + t) d
  | [], i, _, t, d, h => by cases t <;> cases h
  | none :: r, i, ha, 0, d, h => by cases h
  | none :: r, i, ha, t + 1, d, h => by have := all_at r (i + 1) ha t d h; rw [show i + (t + 1) = i + 1 + t by omega]; exact this
  | some x :: r, i, ha, 0, d, h => by cases h; exact ha.1
  | some x :: r, i, ha, t + 1, d, h => by have := all_at r (i + 1) ha.2 t d h; rw [show i + (t + 1) = i + 1 + t by omega]; exact this
def InfoQ (t : Nat) (x : Value × Nat × Nat) : Prop := ∃ i, Try.prog.info? t = some i ∧ i.zero = some x.1 ∧ i.size = x.2.1 ∧ i.bytes = x.2.2 ∧ x.1.cells.size = x.2.1 ∧ x.1.cells.toList.all Value.oneCell' = true
def TyQ (t : Nat) (τ : Ty) : Prop := ∃ i, Try.prog.info? t = some i ∧ i.size = τ.sz ∧ Nat.blt 0 τ.sz = true
def FnQ (f : Nat) (fn : Func) : Prop := Try.prog.funcs[f]? = some fn ∧ (fn.name == "runtime.NumGoroutine") = false
theorem inf3 : Try.prog.info? 3 = some Try.t3 := by kernel_rfl
theorem inf4 : Try.prog.info? 4 = some Try.t4 := by kernel_rfl
theorem inf5 : Try.prog.info? 5 = some Try.t5 := by kernel_rfl
theorem inf9 : Try.prog.info? 9 = some Try.t9 := by kernel_rfl
theorem inf22 : Try.prog.info? 22 = some Try.t22 := by kernel_rfl
theorem inf23 : Try.prog.info? 23 = some Try.t23 := by kernel_rfl
theorem inf26 : Try.prog.info? 26 = some Try.t26 := by kernel_rfl
theorem inf27 : Try.prog.info? 27 = some Try.t27 := by kernel_rfl
theorem inf39 : Try.prog.info? 39 = some Try.t39 := by kernel_rfl
theorem inf46 : Try.prog.info? 46 = some Try.t46 := by kernel_rfl
theorem inf66 : Try.prog.info? 66 = some Try.t66 := by kernel_rfl
theorem inf73 : Try.prog.info? 73 = some Try.t73 := by kernel_rfl
theorem inf79 : Try.prog.info? 79 = some Try.t79 := by kernel_rfl
theorem inf80 : Try.prog.info? 80 = some Try.t80 := by kernel_rfl
theorem inf82 : Try.prog.info? 82 = some Try.t82 := by kernel_rfl
theorem inf84 : Try.prog.info? 84 = some Try.t84 := by kernel_rfl
theorem inf86 : Try.prog.info? 86 = some Try.t86 := by kernel_rfl
theorem inf89 : Try.prog.info? 89 = some Try.t89 := by kernel_rfl
theorem inf113 : Try.prog.info? 113 = some Try.t113 := by kernel_rfl
theorem inf116 : Try.prog.info? 116 = some Try.t116 := by kernel_rfl
theorem inf126 : Try.prog.info? 126 = some Try.t126 := by kernel_rfl
theorem inf154 : Try.prog.info? 154 = some Try.t154 := by kernel_rfl
theorem inf156 : Try.prog.info? 156 = some Try.t156 := by kernel_rfl
theorem fnm4 : (Try.f4.name == "runtime.NumGoroutine") = false := by kernel_rfl
theorem fnm10 : (Try.f10.name == "runtime.NumGoroutine") = false := by kernel_rfl
theorem fnm11 : (Try.f11.name == "runtime.NumGoroutine") = false := by kernel_rfl
theorem fnm12 : (Try.f12.name == "runtime.NumGoroutine") = false := by kernel_rfl
theorem fnm13 : (Try.f13.name == "runtime.NumGoroutine") = false := by kernel_rfl
theorem fnm14 : (Try.f14.name == "runtime.NumGoroutine") = false := by kernel_rfl
theorem fnm15 : (Try.f15.name == "runtime.NumGoroutine") = false := by kernel_rfl
theorem fnm16 : (Try.f16.name == "runtime.NumGoroutine") = false := by kernel_rfl
theorem fnm17 : (Try.f17.name == "runtime.NumGoroutine") = false := by kernel_rfl
theorem fnm44 : (Try.f44.name == "runtime.NumGoroutine") = false := by kernel_rfl
theorem fnm45 : (Try.f45.name == "runtime.NumGoroutine") = false := by kernel_rfl
theorem fnm46 : (Try.f46.name == "runtime.NumGoroutine") = false := by kernel_rfl
theorem fnm47 : (Try.f47.name == "runtime.NumGoroutine") = false := by kernel_rfl
theorem fnm48 : (Try.f48.name == "runtime.NumGoroutine") = false := by kernel_rfl
theorem fnm49 : (Try.f49.name == "runtime.NumGoroutine") = false := by kernel_rfl
theorem fnm50 : (Try.f50.name == "runtime.NumGoroutine") = false := by kernel_rfl
theorem fnm51 : (Try.f51.name == "runtime.NumGoroutine") = false := by kernel_rfl
theorem fnm52 : (Try.f52.name == "runtime.NumGoroutine") = false := by kernel_rfl
theorem fnm78 : (Try.f78.name == "runtime.NumGoroutine") = false := by kernel_rfl
theorem fnm79 : (Try.f79.name == "runtime.NumGoroutine") = false := by kernel_rfl
theorem fnm80 : (Try.f80.name == "runtime.NumGoroutine") = false := by kernel_rfl
theorem fnm81 : (Try.f81.name == "runtime.NumGoroutine") = false := by kernel_rfl
theorem fnm82 : (Try.f82.name == "runtime.NumGoroutine") = false := by kernel_rfl
theorem fnm83 : (Try.f83.name == "runtime.NumGoroutine") = false := by kernel_rfl
theorem fnm84 : (Try.f84.name == "runtime.NumGoroutine") = false := by kernel_rfl
theorem fnm85 : (Try.f85.name == "runtime.NumGoroutine") = false := by kernel_rfl
theorem fnm86 : (Try.f86.name == "runtime.NumGoroutine") = false := by kernel_rfl
theorem fnm87 : (Try.f87.name == "runtime.NumGoroutine") = false := by kernel_rfl
theorem fnm88 : (Try.f88.name == "runtime.NumGoroutine") = false := by kernel_rfl
theorem fnm89 : (Try.f89.name == "runtime.NumGoroutine") = false := by kernel_rfl
theorem fnm90 : (Try.f90.name == "runtime.NumGoroutine") = false := by kernel_rfl
theorem fnm91 : (Try.f91.name == "runtime.NumGoroutine") = false := by kernel_rfl
theorem fnm92 : (Try.f92.name == "runtime.NumGoroutine") = false := by kernel_rfl
theorem fnm93 : (Try.f93.name == "runtime.NumGoroutine") = false := by kernel_rfl
theorem fnm94 : (Try.f94.name == "runtime.NumGoroutine") = false := by kernel_rfl
theorem fnm95 : (Try.f95.name == "runtime.NumGoroutine") = false := by kernel_rfl
theorem fnm96 : (Try.f96.name == "runtime.NumGoroutine") = false := by kernel_rfl
theorem fnm114 : (Try.f114.name == "runtime.NumGoroutine") = false := by kernel_rfl
theorem fnm115 : (Try.f115.name == "runtime.NumGoroutine") = false := by kernel_rfl
theorem fnm116 : (Try.f116.name == "runtime.NumGoroutine") = false := by kernel_rfl
theorem fnm117 : (Try.f117.name == "runtime.NumGoroutine") = false := by kernel_rfl
theorem fnm118 : (Try.f118.name == "runtime.NumGoroutine") = false := by kernel_rfl
theorem fnm119 : (Try.f119.name == "runtime.NumGoroutine") = false := by kernel_rfl
theorem fnm120 : (Try.f120.name == "runtime.NumGoroutine") = false := by kernel_rfl
theorem fnm121 : (Try.f121.name == "runtime.NumGoroutine") = false := by kernel_rfl
theorem fnm122 : (Try.f122.name == "runtime.NumGoroutine") = false := by kernel_rfl
theorem fnm123 : (Try.f123.name == "runtime.NumGoroutine") = false := by kernel_rfl
theorem fnm124 : (Try.f124.name == "runtime.NumGoroutine") = false := by kernel_rfl
theorem fnm136 : (Try.f136.name == "runtime.NumGoroutine") = false := by kernel_rfl
theorem fnm137 : (Try.f137.name == "runtime.NumGoroutine") = false := by kernel_rfl
theorem fnm138 : (Try.f138.name == "runtime.NumGoroutine") = false := by kernel_rfl
theorem fnm139 : (Try.f139.name == "runtime.NumGoroutine") = false := by kernel_rfl
theorem fnm140 : (Try.f140.name == "runtime.NumGoroutine") = false := by kernel_rfl
theorem fnm141 : (Try.f141.name == "runtime.NumGoroutine") = false := by kernel_rfl
theorem fnm144 : (Try.f144.name == "runtime.NumGoroutine") = false := by kernel_rfl
theorem fnm145 : (Try.f145.name == "runtime.NumGoroutine") = false := by kernel_rfl
theorem fnm146 : (Try.f146.name == "runtime.NumGoroutine") = false := by kernel_rfl
theorem fnm147 : (Try.f147.name == "runtime.NumGoroutine") = false := by kernel_rfl
theorem fnm148 : (Try.f148.name == "runtime.NumGoroutine") = false := by kernel_rfl
theorem fnm149 : (Try.f149.name == "runtime.NumGoroutine") = false := by kernel_rfl
theorem und_all : AllT (fun t d => Try.prog.underlying t = some d) 0 undL := ⟨Try.underlying3, ⟨Try.underlying4, ⟨Try.underlying5, ⟨Try.underlying9, ⟨Try.underlying22, ⟨Try.underlying23, ⟨Try.underlying26, ⟨Try.underlying27, ⟨Try.underlying39, ⟨Try.underlying46, ⟨Try.underlying66, ⟨Try.underlying73, ⟨Try.underlying79, ⟨Try.underlying80, ⟨Try.underlying82, ⟨Try.underlying84, ⟨Try.underlying86, ⟨Try.underlying89, ⟨Try.underlying113, ⟨Try.underlying116, ⟨Try.underlying126, ⟨Try.underlying154, ⟨Try.underlying156, trivial⟩⟩⟩⟩⟩⟩⟩⟩⟩⟩⟩⟩⟩⟩⟩⟩⟩⟩⟩⟩⟩⟩⟩
theorem info_all : AllT InfoQ 0 infoL := ⟨⟨Try.t3, inf3, rfl, rfl, rfl, rfl, rfl⟩, ⟨⟨Try.t4, inf4, rfl, rfl, rfl, rfl, rfl⟩, ⟨⟨Try.t5, inf5, rfl, rfl, rfl, rfl, rfl⟩, ⟨⟨Try.t9, inf9, rfl, rfl, rfl, rfl, rfl⟩, ⟨⟨Try.t22, inf22, rfl, rfl, rfl, rfl, rfl⟩, ⟨⟨Try.t23, inf23, rfl, rfl, rfl, rfl, rfl⟩, ⟨⟨Try.t26, inf26, rfl, rfl, rfl, rfl, rfl⟩, ⟨⟨Try.t27, inf27, rfl, rfl, rfl, rfl, rfl⟩, ⟨⟨Try.t39, inf39, rfl, rfl, rfl, rfl, rfl⟩, ⟨⟨Try.t46, inf46, rfl, rfl, rfl, rfl, rfl⟩, ⟨⟨Try.t66, inf66, rfl, rfl, rfl, rfl, rfl⟩, ⟨⟨Try.t73, inf73, rfl, rfl, rfl, rfl, rfl⟩, ⟨⟨Try.t79, inf79, rfl, rfl, rfl, rfl, rfl⟩, ⟨⟨Try.t80, inf80, rfl, rfl, rfl, rfl, rfl⟩, ⟨⟨Try.t82, inf82, rfl, rfl, rfl, rfl, rfl⟩, ⟨⟨Try.t84, inf84, rfl, rfl, rfl, rfl, rfl⟩, ⟨⟨Try.t86, inf86, rfl, rfl, rfl, rfl, rfl⟩, ⟨⟨Try.t89, inf89, rfl, rfl, rfl, rfl, rfl⟩, ⟨⟨Try.t113, inf113, rfl, rfl, rfl, rfl, rfl⟩, ⟨⟨Try.t116, inf116, rfl, rfl, rfl, rfl, rfl⟩, ⟨⟨Try.t126, inf126, rfl, rfl, rfl, rfl, rfl⟩, ⟨⟨Try.t154, inf154, rfl, rfl, rfl, rfl, rfl⟩, ⟨⟨Try.t156, inf156, rfl, rfl, rfl, rfl, rfl⟩, trivial⟩⟩⟩⟩⟩⟩⟩⟩⟩⟩⟩⟩⟩⟩⟩⟩⟩⟩⟩⟩⟩⟩⟩
theorem ty_all : AllT TyQ 0 tyL := ⟨⟨Try.t3, inf3, rfl, rfl⟩, ⟨⟨Try.t4, inf4, rfl, rfl⟩, ⟨⟨Try.t5, inf5, rfl, rfl⟩, ⟨⟨Try.t9, inf9, rfl, rfl⟩, ⟨⟨Try.t22, inf22, rfl, rfl⟩, ⟨⟨Try.t23, inf23, rfl, rfl⟩, ⟨⟨Try.t26, inf26, rfl, rfl⟩, ⟨⟨Try.t27, inf27, rfl, rfl⟩, ⟨⟨Try.t39, inf39, rfl, rfl⟩, ⟨⟨Try.t46, inf46, rfl, rfl⟩, ⟨⟨Try.t73, inf73, rfl, rfl⟩, ⟨⟨Try.t79, inf79, rfl, rfl⟩, ⟨⟨Try.t80, inf80, rfl, rfl⟩, ⟨⟨Try.t82, inf82, rfl, rfl⟩, ⟨⟨Try.t84, inf84, rfl, rfl⟩, ⟨⟨Try.t86, inf86, rfl, rfl⟩, ⟨⟨Try.t89, inf89, rfl, rfl⟩, ⟨⟨Try.t113, inf113, rfl, rfl⟩, ⟨⟨Try.t116, inf116, rfl, rfl⟩, ⟨⟨Try.t126, inf126, rfl, rfl⟩, ⟨⟨Try.t154, inf154, rfl, rfl⟩, ⟨⟨Try.t156, inf156, rfl, rfl⟩, trivial⟩⟩⟩⟩⟩⟩⟩⟩⟩⟩⟩⟩⟩⟩⟩⟩⟩⟩⟩⟩⟩⟩
set_option maxRecDepth 100000 in
theorem fn_all : AllT FnQ 0 fnL := ⟨⟨Try.func4, fnm4⟩, ⟨⟨Try.func10, fnm10⟩, ⟨⟨Try.func11, fnm11⟩, ⟨⟨Try.func12, fnm12⟩, ⟨⟨Try.func13, fnm13⟩, ⟨⟨Try.func14, fnm14⟩, ⟨⟨Try.func15, fnm15⟩, ⟨⟨Try.func16, fnm16⟩, ⟨⟨Try.func17, fnm17⟩, ⟨⟨Try.func44, fnm44⟩, ⟨⟨Try.func45, fnm45⟩, ⟨⟨Try.func46, fnm46⟩, ⟨⟨Try.func47, fnm47⟩, ⟨⟨Try.func48, fnm48⟩, ⟨⟨Try.func49, fnm49⟩, ⟨⟨Try.func50, fnm50⟩, ⟨⟨Try.func51, fnm51⟩, ⟨⟨Try.func52, fnm52⟩, ⟨⟨Try.func78, fnm78⟩, ⟨⟨Try.func79, fnm79⟩, ⟨⟨Try.func80, fnm80⟩, ⟨⟨Try.func81, fnm81⟩, ⟨⟨Try.func82, fnm82⟩, ⟨⟨Try.func83, fnm83⟩, ⟨⟨Try.func84, fnm84⟩, ⟨⟨Try.func85, fnm85⟩, ⟨⟨Try.func86, fnm86⟩, ⟨⟨Try.func87, fnm87⟩, ⟨⟨Try.func88, fnm88⟩, ⟨⟨Try.func89, fnm89⟩, ⟨⟨Try.func90, fnm90⟩, ⟨⟨Try.func91, fnm91⟩, ⟨⟨Try.func92, fnm92⟩, ⟨⟨Try.func93, fnm93⟩, ⟨⟨Try.func94, fnm94⟩, ⟨⟨Try.func95, fnm95⟩, ⟨⟨Try.func96, fnm96⟩, ⟨⟨Try.func114, fnm114⟩, ⟨⟨Try.func115, fnm115⟩, ⟨⟨Try.func116, fnm116⟩, ⟨⟨Try.func117, fnm117⟩, ⟨⟨Try.func118, fnm118⟩, ⟨⟨Try.func119, fnm119⟩, ⟨⟨Try.func120, fnm120⟩, ⟨⟨Try.func121, fnm121⟩, ⟨⟨Try.func122, fnm122⟩, ⟨⟨Try.func123, fnm123⟩, ⟨⟨Try.func124, fnm124⟩, ⟨⟨Try.func136, fnm136⟩, ⟨⟨Try.func137, fnm137⟩, ⟨⟨Try.func138, fnm138⟩, ⟨⟨Try.func139, fnm139⟩, ⟨⟨Try.func140, fnm140⟩, ⟨⟨Try.func141, fnm141⟩, ⟨⟨Try.func144, fnm144⟩, ⟨⟨Try.func145, fnm145⟩, ⟨⟨Try.func146, fnm146⟩, ⟨⟨Try.func147, fnm147⟩, ⟨⟨Try.func148, fnm148⟩, ⟨⟨Try.func149, fnm149⟩, trivial⟩⟩⟩⟩⟩⟩⟩⟩⟩⟩⟩⟩⟩⟩⟩⟩⟩⟩⟩⟩⟩⟩⟩⟩⟩⟩⟩⟩⟩⟩⟩⟩⟩⟩⟩⟩⟩⟩⟩⟩⟩⟩⟩⟩⟩⟩⟩⟩⟩⟩⟩⟩⟩⟩⟩⟩⟩⟩⟩⟩
theorem mixed : Try.prog.follows .mixedOrders = true := by kernel_rfl
def EqQ (t : Nat) (ts : List Ty) : Prop := Try.prog.underlying t = some (.struct (Try.prog.fieldsOf t)) ∧ Try.prog.stoodInHeld t = false ∧ Try.prog.eqGuardType Try.prog.depth t = false ∧ eqFsB Try.prog 0 (Try.prog.fieldsOf t).toList ts = true
theorem eqs_all : AllT EqQ 0 eqL := trivial
theorem ext_cons {a : Nat} {l : List Nat} {n : Nat} (h : lhas (a :: l) n = true) : n = a ∨ lhas l n = true := by
  have h' : (bif Nat.beq a n then true else lhas l n) = true := h
  cases hb : Nat.beq a n with
  | true => exact .inl (Nat.eq_of_beq_eq_true hb).symm
  | false => rw [hb, cond_false] at h'; exact .inr h'
theorem ext_all : ∀ f, lhas extL f = true → ∃ fn c, Try.prog.funcs[f]? = some fn ∧ (fn.name == "runtime.NumGoroutine") = false ∧ fn.body = some c := by
  intro f h
  rcases ext_cons h with rfl | h
  · exact ⟨Try.f55, _, by kernel_rfl, by kernel_rfl, rfl⟩
  rcases ext_cons h with rfl | h
  · exact ⟨Try.f56, _, by kernel_rfl, by kernel_rfl, rfl⟩
  cases h
theorem ok : TabOK Γ Try.prog where
  und t d h := by have := all_at _ _ und_all t d h; rw [Nat.zero_add] at this; exact this
  info t z n b h := by
    obtain ⟨i, h1, h2, h3, h4, h5, _⟩ := all_at _ _ info_all t (z, n, b) h
    rw [Nat.zero_add] at h1
    exact ⟨i, h1, h2, h3, h4, h5⟩
  zero1 t z n b h := by
    obtain ⟨i, _, _, _, _, _, h6⟩ := all_at _ _ info_all t (z, n, b) h
    exact List.all_eq_true.1 h6
  fn f fn h := by
    obtain ⟨h1, h2⟩ := all_at _ _ fn_all f fn h
    rw [Nat.zero_add] at h1
    exact ⟨h1, h2⟩
  ty t τ h := by
    obtain ⟨i, h1, h2, h3⟩ := all_at _ _ ty_all t τ h
    rw [Nat.zero_add] at h1
    exact ⟨i, h1, h2, Nat.le_of_ble_eq_true h3⟩
  mixed := mixed
  eqs t ts h := by have := all_at _ _ eqs_all t ts h; rw [Nat.zero_add] at this; exact this
  ext := ext_all
end Go.Proofs.GR.T

