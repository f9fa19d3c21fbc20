/-
  No statement is proved here: the tables of the program, and that they tell it.
  No condition.
-/
import Derived.Test.YtfihkpknhkbciaaDoorProg
import Derived.Test.YtfihkpknhkbciaaDoorQTablesReadd
import Derived.KernelRfl
namespace Go.Proofs.GR.T
open Go.Proofs
noncomputable def undL : List (Option TypeDesc) := [none, none, none, some (.int .i64), some (.bool), some (.int .u8), none, none, none, some (.string), none, none, none, none, none, none, none, none, none, none, none, none, none, some (.struct #[⟨ "Kind", 3, 0, false, "", "", 0⟩, ⟨ "N", 3, 1, false, "", "", 8⟩, ⟨ "T", 9, 2, false, "", "", 16⟩]), some (.slice 26), none, some (.struct #[⟨ "Kind", 3, 0, false, "", "", 0⟩, ⟨ "N", 3, 1, false, "", "", 8⟩, ⟨ "Name", 9, 2, false, "", "", 16⟩, ⟨ "Of", 9, 3, false, "", "", 32⟩, ⟨ "Val", 23, 4, false, "", "", 48⟩, ⟨ "Kids", 24, 7, false, "", "", 80⟩]), none, some (.slice 9), none, none, some (.struct #[⟨ "Kind", 3, 0, false, "", "", 0⟩, ⟨ "N", 3, 1, false, "", "", 8⟩, ⟨ "T", 9, 2, false, "", "", 16⟩]), some (.slice 34), none, some (.struct #[⟨ "Kind", 3, 0, false, "", "", 0⟩, ⟨ "N", 3, 1, false, "", "", 8⟩, ⟨ "Name", 9, 2, false, "", "", 16⟩, ⟨ "Of", 9, 3, false, "", "", 32⟩, ⟨ "Val", 31, 4, false, "", "", 48⟩, ⟨ "Kids", 32, 7, false, "", "", 80⟩]), none, none, none, none, none, none, none, none, none, none, none, none, none, none, none, none, none, none, none, none, none, none, none, none, none, none, some (.slice 64), none, none, some (.struct #[⟨ "table", 9, 0, false, "", "loop.example/g00208/impl", 0⟩, ⟨ "of", 9, 1, false, "", "loop.example/g00208/impl", 16⟩, ⟨ "place", 3, 2, false, "", "loop.example/g00208/impl", 32⟩]), none, some (.slice 5), some (.slice 3)]
noncomputable def infoL : List (Option (Value × Nat × Nat)) := [none, none, none, some ((.int .i64 0, 1, 8)), some ((.bool false, 1, 1)), some ((.int .u8 0, 1, 1)), none, none, none, some ((.string ByteArray.empty, 1, 16)), none, none, none, none, none, none, none, none, none, none, none, none, none, some ((.agg #[.int .i64 0, .int .i64 0, .string ByteArray.empty], 3, 32)), some ((.slice none 0 0, 1, 24)), none, some ((.agg #[.int .i64 0, .int .i64 0, .string ByteArray.empty, .string ByteArray.empty, .int .i64 0, .int .i64 0, .string ByteArray.empty, .slice none 0 0], 8, 104)), none, some ((.slice none 0 0, 1, 24)), none, none, some ((.agg #[.int .i64 0, .int .i64 0, .string ByteArray.empty], 3, 32)), some ((.slice none 0 0, 1, 24)), none, some ((.agg #[.int .i64 0, .int .i64 0, .string ByteArray.empty, .string ByteArray.empty, .int .i64 0, .int .i64 0, .string ByteArray.empty, .slice none 0 0], 8, 104)), none, none, none, none, none, none, none, none, none, none, none, none, none, none, none, none, none, none, none, none, none, none, none, none, none, none, some ((.slice none 0 0, 1, 24)), none, none, some ((.agg #[.string ByteArray.empty, .string ByteArray.empty, .int .i64 0], 3, 40)), none, some ((.slice none 0 0, 1, 24)), some ((.slice none 0 0, 1, 24))]
noncomputable def tyL : List (Option Ty) := [none, none, none, some ((.int .i64)), some (.bool), some ((.int .u8)), none, none, none, some (.str), none, none, none, none, none, none, none, none, none, none, none, none, none, some ((.pair (.int .i64) (.pair (.int .i64) .str))), some ((.slice (.rose (.pair (.int .i64) (.pair (.int .i64) (.pair .str (.pair .str (.pair (.int .i64) (.pair (.int .i64) .str))))))))), none, some ((.rose (.pair (.int .i64) (.pair (.int .i64) (.pair .str (.pair .str (.pair (.int .i64) (.pair (.int .i64) .str)))))))), none, some ((.slice .str)), none, none, some ((.pair (.int .i64) (.pair (.int .i64) .str))), some ((.slice (.rose (.pair (.int .i64) (.pair (.int .i64) (.pair .str (.pair .str (.pair (.int .i64) (.pair (.int .i64) .str))))))))), none, some ((.rose (.pair (.int .i64) (.pair (.int .i64) (.pair .str (.pair .str (.pair (.int .i64) (.pair (.int .i64) .str)))))))), none, none, none, none, none, none, none, none, none, none, none, none, none, none, none, none, none, none, none, none, none, none, none, none, none, none, some ((.slice (.pair .str (.pair .str (.int .i64))))), none, none, some ((.pair .str (.pair .str (.int .i64)))), none, some ((.slice (.int .u8))), some ((.slice (.int .i64)))]
noncomputable def eqL : List (Option (List Ty)) := [none, none, none, none, none, none, none, none, none, none, none, none, none, none, none, none, none, none, none, none, none, none, none, none, none, none, none, none, none, none, none, some ([.int .i64, .int .i64, .str]), none, none, none, none, none, none, none, none, none, none, none, none, none, none, none, none, none, none, none, none, none, none, none, none, none, none, none, none, none, none, none, none, none, none, none, none]
noncomputable def fnL : List (Option Func) := [none, none, none, some Tryd.f3, some Tryd.f4, some Tryd.f5, some Tryd.f6, some Tryd.f7, some Tryd.f8, some Tryd.f9, some Tryd.f10, some Tryd.f11, some Tryd.f12, some Tryd.f13, some Tryd.f14, some Tryd.f15, some Tryd.f16, some Tryd.f17, some Tryd.f18, some Tryd.f19, some Tryd.f20, some Tryd.f21, some Tryd.f22, some Tryd.f23, some Tryd.f24, some Tryd.f25, some Tryd.f26, some Tryd.f27, some Tryd.f28, some Tryd.f29, some Tryd.f30, some Tryd.f31, some Tryd.f32, some Tryd.f33, some Tryd.f34, some Tryd.f35, some Tryd.f36, some Tryd.f37, some Tryd.f38, some Tryd.f39, some Tryd.f40, some Tryd.f41, some Tryd.f42, some Tryd.f43, some Tryd.f44, some Tryd.f45, some Tryd.f46, some Tryd.f47, some Tryd.f48, some Tryd.f49, some Tryd.f50, some Tryd.f51, some Tryd.f52, some Tryd.f53, some Tryd.f54, some Tryd.f55, some Tryd.f56, some Tryd.f57, some Tryd.f58, some Tryd.f59, some Tryd.f60, some Tryd.f61, some Tryd.f62, some Tryd.f63, some Tryd.f64, some Tryd.f65, some Tryd.f66, some Tryd.f67, none, some Tryd.f69, some Tryd.f70, some Tryd.f71, some Tryd.f72, some Tryd.f73, some Tryd.f74]
noncomputable def modeL : List (Nat × List Mode) := [(10, [.wr]), (11, [.wr]), (23, [.wr]), (41, [.tk])]
noncomputable def liveL : List (Nat × List (Nat × List Nat)) := [(8, [(0, [0, 1, 5])]), (11, [(0, [0, 1, 5])]), (12, [(0, [0, 1, 5])]), (14, [(0, [0, 1, 5])]), (15, [(1, [1, 3])]), (16, [(0, [1, 3, 4])]), (18, [(0, [0, 3, 4])]), (20, [(0, [3, 8, 9, 10])]), (22, [(0, [0, 1, 5])]), (23, [(0, [0, 1, 5])]), (24, [(0, [0, 3])]), (25, [(0, [1, 2, 3, 7])]), (26, [(2, [1, 3, 4, 5, 6]), (0, [1, 3, 4, 5, 6])]), (27, [(0, [0, 3])]), (29, [(0, [1, 2, 5])]), (30, [(0, [0, 1, 5])]), (38, [(0, [0, 1, 2, 8])]), (39, [(0, [3, 8, 9, 10])]), (40, [(0, [1, 3, 18, 19, 20])]), (41, [(0, [0, 7, 8, 9])]), (42, [(1, [1, 3])]), (49, [(0, [3, 7, 8, 9])]), (50, [(0, [0, 5, 6])]), (53, [(0, [0, 1, 7, 8])]), (58, [(0, [0, 4])]), (62, [(0, [1, 14, 15, 16])]), (63, [(0, [0, 3])]), (67, [(0, [0, 1, 7, 8])])]
noncomputable def outsL : List (Nat × List Bool) := [(5, [true, false]), (6, [true]), (7, [true, false]), (16, [true]), (18, [true]), (20, [true]), (40, [true]), (41, [true]), (45, [true]), (52, [true]), (59, [true]), (70, [true])]
def find {α : Type} (d : α) : List (Nat × α) → Nat → α
  | [], _ => d
  | p :: l, n => bif Nat.beq p.1 n then p.2 else find d l n
def join {α : Type} : Option (Option α) → Option α
  | some x => x
  | none => none
def extL : List Nat := [68]
noncomputable def Γ : Tab := { fn := fun f => join (lat? fnL f), und := fun t => join (lat? undL t), info := fun t => join (lat? infoL t), ty := fun t => join (lat? tyL t), mode := find [] modeL, live := fun f b => find [] (find [] liveL f) b, outs := find [] outsL, extb := fun f => lhas extL f, eqs := fun t => join (lat? eqL t), gls := [(0, intAt0)] }
end Go.Proofs.GR.T

namespace Go.Proofs.GR.T
open Go.Proofs
def AllT {α : Type} (Q : Nat → α → Prop) : Nat → List (Option α) → Prop
  | _, [] => True
  | i, none :: r => AllT Q (i + 1) r
  | i, some d :: r => Q i d ∧ AllT Q (i + 1) r
theorem all_at {α : Type} {Q : Nat → α → Prop} : ∀ (l : List (Option α)) (i : Nat), AllT Q i l → ∀ (t : Nat) (d : α), join (lat? l t) = some d → Q (i + t) d
  | [], i, _, t, d, h => by cases t <;> cases h
  | none :: r, i, ha, 0, d, h => by cases h
  | none :: r, i, ha, t + 1, d, h => by have := all_at r (i + 1) ha t d h; rw [show i + (t + 1) = i + 1 + t by omega]; exact this
  | some x :: r, i, ha, 0, d, h => by cases h; exact ha.1
  | some x :: r, i, ha, t + 1, d, h => by have := all_at r (i + 1) ha.2 t d h; rw [show i + (t + 1) = i + 1 + t by omega]; exact this
def InfoQ (t : Nat) (x : Value × Nat × Nat) : Prop := ∃ i, Tryd.prog.info? t = some i ∧ i.zero = some x.1 ∧ i.size = x.2.1 ∧ i.bytes = x.2.2 ∧ x.1.cells.size = x.2.1 ∧ x.1.cells.toList.all Value.oneCell' = true
def TyQ (t : Nat) (τ : Ty) : Prop := ∃ i, Tryd.prog.info? t = some i ∧ i.size = τ.sz ∧ Nat.blt 0 τ.sz = true
def FnQ (f : Nat) (fn : Func) : Prop := Tryd.prog.funcs[f]? = some fn ∧ (fn.name == "runtime.NumGoroutine") = false
theorem inf3 : Tryd.prog.info? 3 = some Tryd.t3 := by kernel_rfl
theorem inf4 : Tryd.prog.info? 4 = some Tryd.t4 := by kernel_rfl
theorem inf5 : Tryd.prog.info? 5 = some Tryd.t5 := by kernel_rfl
theorem inf9 : Tryd.prog.info? 9 = some Tryd.t9 := by kernel_rfl
theorem inf23 : Tryd.prog.info? 23 = some Tryd.t23 := by kernel_rfl
theorem inf24 : Tryd.prog.info? 24 = some Tryd.t24 := by kernel_rfl
theorem inf26 : Tryd.prog.info? 26 = some Tryd.t26 := by kernel_rfl
theorem inf28 : Tryd.prog.info? 28 = some Tryd.t28 := by kernel_rfl
theorem inf31 : Tryd.prog.info? 31 = some Tryd.t31 := by kernel_rfl
theorem inf32 : Tryd.prog.info? 32 = some Tryd.t32 := by kernel_rfl
theorem inf34 : Tryd.prog.info? 34 = some Tryd.t34 := by kernel_rfl
theorem inf61 : Tryd.prog.info? 61 = some Tryd.t61 := by kernel_rfl
theorem inf64 : Tryd.prog.info? 64 = some Tryd.t64 := by kernel_rfl
theorem inf66 : Tryd.prog.info? 66 = some Tryd.t66 := by kernel_rfl
theorem inf67 : Tryd.prog.info? 67 = some Tryd.t67 := by kernel_rfl
theorem fnm3 : (Tryd.f3.name == "runtime.NumGoroutine") = false := by kernel_rfl
theorem fnm4 : (Tryd.f4.name == "runtime.NumGoroutine") = false := by kernel_rfl
theorem fnm5 : (Tryd.f5.name == "runtime.NumGoroutine") = false := by kernel_rfl
theorem fnm6 : (Tryd.f6.name == "runtime.NumGoroutine") = false := by kernel_rfl
theorem fnm7 : (Tryd.f7.name == "runtime.NumGoroutine") = false := by kernel_rfl
theorem fnm8 : (Tryd.f8.name == "runtime.NumGoroutine") = false := by kernel_rfl
theorem fnm9 : (Tryd.f9.name == "runtime.NumGoroutine") = false := by kernel_rfl
theorem fnm10 : (Tryd.f10.name == "runtime.NumGoroutine") = false := by kernel_rfl
theorem fnm11 : (Tryd.f11.name == "runtime.NumGoroutine") = false := by kernel_rfl
theorem fnm12 : (Tryd.f12.name == "runtime.NumGoroutine") = false := by kernel_rfl
theorem fnm13 : (Tryd.f13.name == "runtime.NumGoroutine") = false := by kernel_rfl
theorem fnm14 : (Tryd.f14.name == "runtime.NumGoroutine") = false := by kernel_rfl
theorem fnm15 : (Tryd.f15.name == "runtime.NumGoroutine") = false := by kernel_rfl
theorem fnm16 : (Tryd.f16.name == "runtime.NumGoroutine") = false := by kernel_rfl
theorem fnm17 : (Tryd.f17.name == "runtime.NumGoroutine") = false := by kernel_rfl
theorem fnm18 : (Tryd.f18.name == "runtime.NumGoroutine") = false := by kernel_rfl
theorem fnm19 : (Tryd.f19.name == "runtime.NumGoroutine") = false := by kernel_rfl
theorem fnm20 : (Tryd.f20.name == "runtime.NumGoroutine") = false := by kernel_rfl
theorem fnm21 : (Tryd.f21.name == "runtime.NumGoroutine") = false := by kernel_rfl
theorem fnm22 : (Tryd.f22.name == "runtime.NumGoroutine") = false := by kernel_rfl
theorem fnm23 : (Tryd.f23.name == "runtime.NumGoroutine") = false := by kernel_rfl
theorem fnm24 : (Tryd.f24.name == "runtime.NumGoroutine") = false := by kernel_rfl
theorem fnm25 : (Tryd.f25.name == "runtime.NumGoroutine") = false := by kernel_rfl
theorem fnm26 : (Tryd.f26.name == "runtime.NumGoroutine") = false := by kernel_rfl
theorem fnm27 : (Tryd.f27.name == "runtime.NumGoroutine") = false := by kernel_rfl
theorem fnm28 : (Tryd.f28.name == "runtime.NumGoroutine") = false := by kernel_rfl
theorem fnm29 : (Tryd.f29.name == "runtime.NumGoroutine") = false := by kernel_rfl
theorem fnm30 : (Tryd.f30.name == "runtime.NumGoroutine") = false := by kernel_rfl
theorem fnm31 : (Tryd.f31.name == "runtime.NumGoroutine") = false := by kernel_rfl
theorem fnm32 : (Tryd.f32.name == "runtime.NumGoroutine") = false := by kernel_rfl
theorem fnm33 : (Tryd.f33.name == "runtime.NumGoroutine") = false := by kernel_rfl
theorem fnm34 : (Tryd.f34.name == "runtime.NumGoroutine") = false := by kernel_rfl
theorem fnm35 : (Tryd.f35.name == "runtime.NumGoroutine") = false := by kernel_rfl
theorem fnm36 : (Tryd.f36.name == "runtime.NumGoroutine") = false := by kernel_rfl
theorem fnm37 : (Tryd.f37.name == "runtime.NumGoroutine") = false := by kernel_rfl
theorem fnm38 : (Tryd.f38.name == "runtime.NumGoroutine") = false := by kernel_rfl
theorem fnm39 : (Tryd.f39.name == "runtime.NumGoroutine") = false := by kernel_rfl
theorem fnm40 : (Tryd.f40.name == "runtime.NumGoroutine") = false := by kernel_rfl
theorem fnm41 : (Tryd.f41.name == "runtime.NumGoroutine") = false := by kernel_rfl
theorem fnm42 : (Tryd.f42.name == "runtime.NumGoroutine") = false := by kernel_rfl
theorem fnm43 : (Tryd.f43.name == "runtime.NumGoroutine") = false := by kernel_rfl
theorem fnm44 : (Tryd.f44.name == "runtime.NumGoroutine") = false := by kernel_rfl
theorem fnm45 : (Tryd.f45.name == "runtime.NumGoroutine") = false := by kernel_rfl
theorem fnm46 : (Tryd.f46.name == "runtime.NumGoroutine") = false := by kernel_rfl
theorem fnm47 : (Tryd.f47.name == "runtime.NumGoroutine") = false := by kernel_rfl
theorem fnm48 : (Tryd.f48.name == "runtime.NumGoroutine") = false := by kernel_rfl
theorem fnm49 : (Tryd.f49.name == "runtime.NumGoroutine") = false := by kernel_rfl
theorem fnm50 : (Tryd.f50.name == "runtime.NumGoroutine") = false := by kernel_rfl
theorem fnm51 : (Tryd.f51.name == "runtime.NumGoroutine") = false := by kernel_rfl
theorem fnm52 : (Tryd.f52.name == "runtime.NumGoroutine") = false := by kernel_rfl
theorem fnm53 : (Tryd.f53.name == "runtime.NumGoroutine") = false := by kernel_rfl
theorem fnm54 : (Tryd.f54.name == "runtime.NumGoroutine") = false := by kernel_rfl
theorem fnm55 : (Tryd.f55.name == "runtime.NumGoroutine") = false := by kernel_rfl
theorem fnm56 : (Tryd.f56.name == "runtime.NumGoroutine") = false := by kernel_rfl
theorem fnm57 : (Tryd.f57.name == "runtime.NumGoroutine") = false := by kernel_rfl
theorem fnm58 : (Tryd.f58.name == "runtime.NumGoroutine") = false := by kernel_rfl
theorem fnm59 : (Tryd.f59.name == "runtime.NumGoroutine") = false := by kernel_rfl
theorem fnm60 : (Tryd.f60.name == "runtime.NumGoroutine") = false := by kernel_rfl
theorem fnm61 : (Tryd.f61.name == "runtime.NumGoroutine") = false := by kernel_rfl
theorem fnm62 : (Tryd.f62.name == "runtime.NumGoroutine") = false := by kernel_rfl
theorem fnm63 : (Tryd.f63.name == "runtime.NumGoroutine") = false := by kernel_rfl
theorem fnm64 : (Tryd.f64.name == "runtime.NumGoroutine") = false := by kernel_rfl
theorem fnm65 : (Tryd.f65.name == "runtime.NumGoroutine") = false := by kernel_rfl
theorem fnm66 : (Tryd.f66.name == "runtime.NumGoroutine") = false := by kernel_rfl
theorem fnm67 : (Tryd.f67.name == "runtime.NumGoroutine") = false := by kernel_rfl
theorem fnm69 : (Tryd.f69.name == "runtime.NumGoroutine") = false := by kernel_rfl
theorem fnm70 : (Tryd.f70.name == "runtime.NumGoroutine") = false := by kernel_rfl
theorem fnm71 : (Tryd.f71.name == "runtime.NumGoroutine") = false := by kernel_rfl
theorem fnm72 : (Tryd.f72.name == "runtime.NumGoroutine") = false := by kernel_rfl
theorem fnm73 : (Tryd.f73.name == "runtime.NumGoroutine") = false := by kernel_rfl
theorem fnm74 : (Tryd.f74.name == "runtime.NumGoroutine") = false := by kernel_rfl
theorem und_all : AllT (fun t d => Tryd.prog.underlying t = some d) 0 undL := ⟨Tryd.underlying3, ⟨Tryd.underlying4, ⟨Tryd.underlying5, ⟨Tryd.underlying9, ⟨Tryd.underlying23, ⟨Tryd.underlying24, ⟨Tryd.underlying26, ⟨Tryd.underlying28, ⟨Tryd.underlying31, ⟨Tryd.underlying32, ⟨Tryd.underlying34, ⟨Tryd.underlying61, ⟨Tryd.underlying64, ⟨Tryd.underlying66, ⟨Tryd.underlying67, trivial⟩⟩⟩⟩⟩⟩⟩⟩⟩⟩⟩⟩⟩⟩⟩
theorem info_all : AllT InfoQ 0 infoL := ⟨⟨Tryd.t3, inf3, rfl, rfl, rfl, rfl, rfl⟩, ⟨⟨Tryd.t4, inf4, rfl, rfl, rfl, rfl, rfl⟩, ⟨⟨Tryd.t5, inf5, rfl, rfl, rfl, rfl, rfl⟩, ⟨⟨Tryd.t9, inf9, rfl, rfl, rfl, rfl, rfl⟩, ⟨⟨Tryd.t23, inf23, rfl, rfl, rfl, rfl, rfl⟩, ⟨⟨Tryd.t24, inf24, rfl, rfl, rfl, rfl, rfl⟩, ⟨⟨Tryd.t26, inf26, rfl, rfl, rfl, rfl, rfl⟩, ⟨⟨Tryd.t28, inf28, rfl, rfl, rfl, rfl, rfl⟩, ⟨⟨Tryd.t31, inf31, rfl, rfl, rfl, rfl, rfl⟩, ⟨⟨Tryd.t32, inf32, rfl, rfl, rfl, rfl, rfl⟩, ⟨⟨Tryd.t34, inf34, rfl, rfl, rfl, rfl, rfl⟩, ⟨⟨Tryd.t61, inf61, rfl, rfl, rfl, rfl, rfl⟩, ⟨⟨Tryd.t64, inf64, rfl, rfl, rfl, rfl, rfl⟩, ⟨⟨Tryd.t66, inf66, rfl, rfl, rfl, rfl, rfl⟩, ⟨⟨Tryd.t67, inf67, rfl, rfl, rfl, rfl, rfl⟩, trivial⟩⟩⟩⟩⟩⟩⟩⟩⟩⟩⟩⟩⟩⟩⟩
theorem ty_all : AllT TyQ 0 tyL := ⟨⟨Tryd.t3, inf3, rfl, rfl⟩, ⟨⟨Tryd.t4, inf4, rfl, rfl⟩, ⟨⟨Tryd.t5, inf5, rfl, rfl⟩, ⟨⟨Tryd.t9, inf9, rfl, rfl⟩, ⟨⟨Tryd.t23, inf23, rfl, rfl⟩, ⟨⟨Tryd.t24, inf24, rfl, rfl⟩, ⟨⟨Tryd.t26, inf26, rfl, rfl⟩, ⟨⟨Tryd.t28, inf28, rfl, rfl⟩, ⟨⟨Tryd.t31, inf31, rfl, rfl⟩, ⟨⟨Tryd.t32, inf32, rfl, rfl⟩, ⟨⟨Tryd.t34, inf34, rfl, rfl⟩, ⟨⟨Tryd.t61, inf61, rfl, rfl⟩, ⟨⟨Tryd.t64, inf64, rfl, rfl⟩, ⟨⟨Tryd.t66, inf66, rfl, rfl⟩, ⟨⟨Tryd.t67, inf67, rfl, rfl⟩, trivial⟩⟩⟩⟩⟩⟩⟩⟩⟩⟩⟩⟩⟩⟩⟩
set_option maxRecDepth 100000 in
theorem fn_all : AllT FnQ 0 fnL := ⟨⟨Tryd.func3, fnm3⟩, ⟨⟨Tryd.func4, fnm4⟩, ⟨⟨Tryd.func5, fnm5⟩, ⟨⟨Tryd.func6, fnm6⟩, ⟨⟨Tryd.func7, fnm7⟩, ⟨⟨Tryd.func8, fnm8⟩, ⟨⟨Tryd.func9, fnm9⟩, ⟨⟨Tryd.func10, fnm10⟩, ⟨⟨Tryd.func11, fnm11⟩, ⟨⟨Tryd.func12, fnm12⟩, ⟨⟨Tryd.func13, fnm13⟩, ⟨⟨Tryd.func14, fnm14⟩, ⟨⟨Tryd.func15, fnm15⟩, ⟨⟨Tryd.func16, fnm16⟩, ⟨⟨Tryd.func17, fnm17⟩, ⟨⟨Tryd.func18, fnm18⟩, ⟨⟨Tryd.func19, fnm19⟩, ⟨⟨Tryd.func20, fnm20⟩, ⟨⟨Tryd.func21, fnm21⟩, ⟨⟨Tryd.func22, fnm22⟩, ⟨⟨Tryd.func23, fnm23⟩, ⟨⟨Tryd.func24, fnm24⟩, ⟨⟨Tryd.func25, fnm25⟩, ⟨⟨Tryd.func26, fnm26⟩, ⟨⟨Tryd.func27, fnm27⟩, ⟨⟨Tryd.func28, fnm28⟩, ⟨⟨Tryd.func29, fnm29⟩, ⟨⟨Tryd.func30, fnm30⟩, ⟨⟨Tryd.func31, fnm31⟩, ⟨⟨Tryd.func32, fnm32⟩, ⟨⟨Tryd.func33, fnm33⟩, ⟨⟨Tryd.func34, fnm34⟩, ⟨⟨Tryd.func35, fnm35⟩, ⟨⟨Tryd.func36, fnm36⟩, ⟨⟨Tryd.func37, fnm37⟩, ⟨⟨Tryd.func38, fnm38⟩, ⟨⟨Tryd.func39, fnm39⟩, ⟨⟨Tryd.func40, fnm40⟩, ⟨⟨Tryd.func41, fnm41⟩, ⟨⟨Tryd.func42, fnm42⟩, ⟨⟨Tryd.func43, fnm43⟩, ⟨⟨Tryd.func44, fnm44⟩, ⟨⟨Tryd.func45, fnm45⟩, ⟨⟨Tryd.func46, fnm46⟩, ⟨⟨Tryd.func47, fnm47⟩, ⟨⟨Tryd.func48, fnm48⟩, ⟨⟨Tryd.func49, fnm49⟩, ⟨⟨Tryd.func50, fnm50⟩, ⟨⟨Tryd.func51, fnm51⟩, ⟨⟨Tryd.func52, fnm52⟩, ⟨⟨Tryd.func53, fnm53⟩, ⟨⟨Tryd.func54, fnm54⟩, ⟨⟨Tryd.func55, fnm55⟩, ⟨⟨Tryd.func56, fnm56⟩, ⟨⟨Tryd.func57, fnm57⟩, ⟨⟨Tryd.func58, fnm58⟩, ⟨⟨Tryd.func59, fnm59⟩, ⟨⟨Tryd.func60, fnm60⟩, ⟨⟨Tryd.func61, fnm61⟩, ⟨⟨Tryd.func62, fnm62⟩, ⟨⟨Tryd.func63, fnm63⟩, ⟨⟨Tryd.func64, fnm64⟩, ⟨⟨Tryd.func65, fnm65⟩, ⟨⟨Tryd.func66, fnm66⟩, ⟨⟨Tryd.func67, fnm67⟩, ⟨⟨Tryd.func69, fnm69⟩, ⟨⟨Tryd.func70, fnm70⟩, ⟨⟨Tryd.func71, fnm71⟩, ⟨⟨Tryd.func72, fnm72⟩, ⟨⟨Tryd.func73, fnm73⟩, ⟨⟨Tryd.func74, fnm74⟩, trivial⟩⟩⟩⟩⟩⟩⟩⟩⟩⟩⟩⟩⟩⟩⟩⟩⟩⟩⟩⟩⟩⟩⟩⟩⟩⟩⟩⟩⟩⟩⟩⟩⟩⟩⟩⟩⟩⟩⟩⟩⟩⟩⟩⟩⟩⟩⟩⟩⟩⟩⟩⟩⟩⟩⟩⟩⟩⟩⟩⟩⟩⟩⟩⟩⟩⟩⟩⟩⟩⟩⟩
theorem mixed : Tryd.prog.follows .mixedOrders = true := by kernel_rfl
def EqQ (t : Nat) (ts : List Ty) : Prop := Tryd.prog.underlying t = some (.struct (Tryd.prog.fieldsOf t)) ∧ Tryd.prog.stoodInHeld t = false ∧ Tryd.prog.eqGuardType Tryd.prog.depth t = false ∧ eqFsB Tryd.prog 0 (Tryd.prog.fieldsOf t).toList ts = true
theorem eqs_all : AllT EqQ 0 eqL := ⟨⟨by kernel_rfl, by kernel_rfl, by kernel_rfl, by kernel_rfl⟩, trivial⟩
theorem ext_cons {a : Nat} {l : List Nat} {n : Nat} (h : lhas (a :: l) n = true) : n = a ∨ lhas l n = true := by
  have h' : (bif Nat.beq a n then true else lhas l n) = true := h
  cases hb : Nat.beq a n with
  | true => exact .inl (Nat.eq_of_beq_eq_true hb).symm
  | false => rw [hb, cond_false] at h'; exact .inr h'
theorem ext_all : ∀ f, lhas extL f = true → ∃ fn c, Tryd.prog.funcs[f]? = some fn ∧ (fn.name == "runtime.NumGoroutine") = false ∧ fn.body = some c := by
  intro f h
  rcases ext_cons h with rfl | h
  · exact ⟨Tryd.f68, _, by kernel_rfl, by kernel_rfl, rfl⟩
  cases h
theorem ok : TabOK Γ Tryd.prog where
  und t d h := by have := all_at _ _ und_all t d h; rw [Nat.zero_add] at this; exact this
  info t z n b h := by
    obtain ⟨i, h1, h2, h3, h4, h5, _⟩ := all_at _ _ info_all t (z, n, b) h
    rw [Nat.zero_add] at h1
    exact ⟨i, h1, h2, h3, h4, h5⟩
  zero1 t z n b h := by
    obtain ⟨i, _, _, _, _, _, h6⟩ := all_at _ _ info_all t (z, n, b) h
    exact List.all_eq_true.1 h6
  fn f fn h := by
    obtain ⟨h1, h2⟩ := all_at _ _ fn_all f fn h
    rw [Nat.zero_add] at h1
    exact ⟨h1, h2⟩
  ty t τ h := by
    obtain ⟨i, h1, h2, h3⟩ := all_at _ _ ty_all t τ h
    rw [Nat.zero_add] at h1
    exact ⟨i, h1, h2, Nat.le_of_ble_eq_true h3⟩
  mixed := mixed
  eqs t ts h := by have := all_at _ _ eqs_all t ts h; rw [Nat.zero_add] at this; exact this
  ext := ext_all
end Go.Proofs.GR.T

