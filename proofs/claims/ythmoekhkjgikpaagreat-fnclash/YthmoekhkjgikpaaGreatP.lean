/- The table of types. No condition. -/
import Derived.Test.YthmoekhkjgikpaaGreatEG
import Derived.Test.YthmoekhkjgikpaaGreatF
import Derived.Test.YthmoekhkjgikpaaGreatProg
import Derived.KernelRfl
set_option linter.unusedVariables false
set_option linter.unusedSimpArgs false
set_option linter.unusedSectionVars false
/- Types: printed by gen.py. -/
namespace Go.Ev.G
open Go.Ev Go.Proofs
def tab : List (Nat × Ty) := [(3, i64), (5, u8), (9, .str), (22, bs), (24, tLimits), (25, (.slice tPush)), (27, tTable), (28, (.slice tHead)), (33, tPush), (35, tLight), (38, (.slice bs)), (40, tQc), (42, tProof), (48, tVote), (50, tHead), (52, tBlock), (53, (.slice tEntry)), (55, tTc), (57, tIncl), (59, tMsg), (94, tl01Cur), (109, tPush), (111, is), (125, (.slice tVote)), (131, tEntry), (149, twriter), (189, (.arr 64 i64)), (190, (.arr 8 i64))]
def tt : Nat → Option Ty := alook tab
theorem ty3 : TyFact Tryz.prog tt 3 i64 := ⟨by kernel_rfl, Tryz.underlying3, rfl, trivial⟩
theorem ty5 : TyFact Tryz.prog tt 5 u8 := ⟨by kernel_rfl, Tryz.underlying5, rfl, trivial⟩
theorem ty9 : TyFact Tryz.prog tt 9 .str := ⟨by kernel_rfl, Tryz.underlying9, rfl, trivial⟩
theorem ty22 : TyFact Tryz.prog tt 22 bs := ⟨by kernel_rfl, ⟨_, Tryz.underlying22, rfl⟩, rfl, trivial⟩
theorem ty24 : TyFact Tryz.prog tt 24 tLimits := ⟨by kernel_rfl, ⟨_, Tryz.underlying24, ⟨rfl, rfl, ⟨rfl, rfl, ⟨rfl, rfl, ⟨rfl, rfl, ⟨rfl, rfl, trivial⟩⟩⟩⟩⟩⟩, rfl, fun _ => ⟨by kernel_rfl, by kernel_rfl⟩⟩
theorem ty25 : TyFact Tryz.prog tt 25 (.slice tPush) := ⟨by kernel_rfl, ⟨_, Tryz.underlying25, rfl⟩, rfl, trivial⟩
theorem ty27 : TyFact Tryz.prog tt 27 tTable := ⟨by kernel_rfl, ⟨_, Tryz.underlying27, ⟨rfl, rfl, trivial⟩⟩, rfl, fun h => by cases h⟩
theorem ty28 : TyFact Tryz.prog tt 28 (.slice tHead) := ⟨by kernel_rfl, ⟨_, Tryz.underlying28, rfl⟩, rfl, trivial⟩
theorem ty33 : TyFact Tryz.prog tt 33 tPush := ⟨by kernel_rfl, ⟨_, Tryz.underlying33, ⟨rfl, rfl, ⟨rfl, rfl, trivial⟩⟩⟩, rfl, fun h => by cases h⟩
theorem ty35 : TyFact Tryz.prog tt 35 tLight := ⟨by kernel_rfl, ⟨_, Tryz.underlying35, ⟨rfl, rfl, ⟨rfl, rfl, ⟨rfl, rfl, ⟨rfl, rfl, trivial⟩⟩⟩⟩⟩, rfl, fun h => by cases h⟩
theorem ty38 : TyFact Tryz.prog tt 38 (.slice bs) := ⟨by kernel_rfl, ⟨_, Tryz.underlying38, rfl⟩, rfl, trivial⟩
theorem ty40 : TyFact Tryz.prog tt 40 tQc := ⟨by kernel_rfl, ⟨_, Tryz.underlying40, ⟨rfl, rfl, ⟨rfl, rfl, ⟨rfl, rfl, ⟨rfl, rfl, ⟨rfl, rfl, trivial⟩⟩⟩⟩⟩⟩, rfl, fun h => by cases h⟩
theorem ty42 : TyFact Tryz.prog tt 42 tProof := ⟨by kernel_rfl, ⟨_, Tryz.underlying42, ⟨rfl, rfl, ⟨rfl, rfl, trivial⟩⟩⟩, rfl, fun h => by cases h⟩
theorem ty48 : TyFact Tryz.prog tt 48 tVote := ⟨by kernel_rfl, ⟨_, Tryz.underlying48, ⟨rfl, rfl, ⟨rfl, rfl, ⟨rfl, rfl, ⟨rfl, rfl, ⟨rfl, rfl, trivial⟩⟩⟩⟩⟩⟩, rfl, fun h => by cases h⟩
theorem ty50 : TyFact Tryz.prog tt 50 tHead := ⟨by kernel_rfl, ⟨_, Tryz.underlying50, ⟨rfl, rfl, ⟨rfl, rfl, ⟨rfl, rfl, ⟨rfl, rfl, ⟨rfl, rfl, ⟨rfl, rfl, trivial⟩⟩⟩⟩⟩⟩⟩, rfl, fun h => by cases h⟩
theorem ty52 : TyFact Tryz.prog tt 52 tBlock := ⟨by kernel_rfl, ⟨_, Tryz.underlying52, ⟨rfl, rfl, ⟨rfl, rfl, trivial⟩⟩⟩, rfl, fun h => by cases h⟩
theorem ty53 : TyFact Tryz.prog tt 53 (.slice tEntry) := ⟨by kernel_rfl, ⟨_, Tryz.underlying53, rfl⟩, rfl, trivial⟩
theorem ty55 : TyFact Tryz.prog tt 55 tTc := ⟨by kernel_rfl, ⟨_, Tryz.underlying55, ⟨rfl, rfl, ⟨rfl, rfl, trivial⟩⟩⟩, rfl, fun h => by cases h⟩
theorem ty57 : TyFact Tryz.prog tt 57 tIncl := ⟨by kernel_rfl, ⟨_, Tryz.underlying57, ⟨rfl, rfl, ⟨rfl, rfl, ⟨rfl, rfl, ⟨rfl, rfl, ⟨rfl, rfl, trivial⟩⟩⟩⟩⟩⟩, rfl, fun h => by cases h⟩
theorem ty59 : TyFact Tryz.prog tt 59 tMsg := ⟨by kernel_rfl, ⟨_, Tryz.underlying59, ⟨rfl, rfl, ⟨rfl, rfl, ⟨rfl, rfl, ⟨rfl, rfl, ⟨rfl, rfl, ⟨rfl, rfl, ⟨rfl, rfl, ⟨rfl, rfl, trivial⟩⟩⟩⟩⟩⟩⟩⟩⟩, rfl, fun h => by cases h⟩
theorem ty94 : TyFact Tryz.prog tt 94 tl01Cur := ⟨by kernel_rfl, ⟨_, Tryz.underlying94, ⟨rfl, rfl, ⟨rfl, rfl, ⟨rfl, rfl, trivial⟩⟩⟩⟩, rfl, fun h => by cases h⟩
theorem ty109 : TyFact Tryz.prog tt 109 tPush := ⟨by kernel_rfl, ⟨_, Tryz.underlying109, ⟨rfl, rfl, ⟨rfl, rfl, trivial⟩⟩⟩, rfl, fun h => by cases h⟩
theorem ty111 : TyFact Tryz.prog tt 111 is := ⟨by kernel_rfl, ⟨_, Tryz.underlying111, rfl⟩, rfl, trivial⟩
theorem ty125 : TyFact Tryz.prog tt 125 (.slice tVote) := ⟨by kernel_rfl, ⟨_, Tryz.underlying125, rfl⟩, rfl, trivial⟩
theorem ty131 : TyFact Tryz.prog tt 131 tEntry := ⟨by kernel_rfl, ⟨_, Tryz.underlying131, ⟨rfl, rfl, ⟨rfl, rfl, ⟨rfl, rfl, trivial⟩⟩⟩⟩, rfl, fun h => by cases h⟩
theorem ty149 : TyFact Tryz.prog tt 149 twriter := ⟨by kernel_rfl, ⟨_, Tryz.underlying149, ⟨rfl, rfl, trivial⟩⟩, rfl, fun h => by cases h⟩
theorem ty189 : TyFact Tryz.prog tt 189 (.arr 64 i64) := ⟨by kernel_rfl, ⟨_, Tryz.underlying189, rfl⟩, rfl, trivial⟩
theorem ty190 : TyFact Tryz.prog tt 190 (.arr 8 i64) := ⟨by kernel_rfl, ⟨_, Tryz.underlying190, rfl⟩, rfl, trivial⟩
theorem tok : TOK Tryz.prog tt := tok_of ⟨ty3, ty5, ty9, ty22, ty24, ty25, ty27, ty28, ty33, ty35, ty38, ty40, ty42, ty48, ty50, ty52, ty53, ty55, ty57, ty59, ty94, ty109, ty111, ty125, ty131, ty149, ty189, ty190, trivial⟩
theorem fol : Tryz.prog.follows .mixedOrders = true := by kernel_rfl
end Go.Ev.G
