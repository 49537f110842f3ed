/- The table of types. No condition. -/
import Derived.Test.YtmbpdaffnabjcaaGreatEG
import Derived.Test.YtmbpdaffnabjcaaGreatF
import Derived.Test.YtmbpdaffnabjcaaGreatProg
import Derived.KernelRfl
set_option linter.unusedVariables false
set_option linter.unusedSimpArgs false
set_option linter.unusedSectionVars false
/- Types: printed by gen.py. -/
namespace Go.Ev.G
open Go.Ev Go.Proofs
def tab : List (Nat × Ty) := [(3, i64), (4, .bool), (5, u8), (9, .str), (22, bs), (24, tLimits), (25, (.slice tPush)), (27, tTable), (28, (.slice tHead)), (33, tPush), (35, tLight), (38, (.slice bs)), (40, tQc), (42, tProof), (48, tVote), (50, tHead), (52, tBlock), (53, (.slice tEntry)), (55, tTc), (57, tIncl), (59, tMsg), (102, (.slice tEvent)), (117, tLimits), (118, tVote), (119, tQc), (121, tHead), (123, tBlock), (124, (.slice tEntry)), (126, tTc), (127, (.slice tHead)), (129, tProof), (130, tIncl), (132, tMsg), (137, (.slice tMsg)), (141, tEvent), (145, (.slice tMsg)), (175, tl01Cur), (185, twriter), (204, tEntry), (261, tPush), (263, is), (270, (.slice tVote)), (287, tl01Cur), (302, (.slice .str)), (334, (.arr 64 i64)), (335, (.arr 8 i64)), (348, tEntry)]
def tt : Nat → Option Ty := alook tab
theorem ty3 : TyFact Tryz.prog tt 3 i64 := ⟨by kernel_rfl, Tryz.underlying3, rfl, trivial⟩
theorem ty4 : TyFact Tryz.prog tt 4 .bool := ⟨by kernel_rfl, Tryz.underlying4, rfl, trivial⟩
theorem ty5 : TyFact Tryz.prog tt 5 u8 := ⟨by kernel_rfl, Tryz.underlying5, rfl, trivial⟩
theorem ty9 : TyFact Tryz.prog tt 9 .str := ⟨by kernel_rfl, Tryz.underlying9, rfl, trivial⟩
theorem ty22 : TyFact Tryz.prog tt 22 bs := ⟨by kernel_rfl, ⟨_, Tryz.underlying22, rfl⟩, rfl, trivial⟩
theorem ty24 : TyFact Tryz.prog tt 24 tLimits := ⟨by kernel_rfl, ⟨_, Tryz.underlying24, ⟨rfl, rfl, ⟨rfl, rfl, ⟨rfl, rfl, ⟨rfl, rfl, ⟨rfl, rfl, trivial⟩⟩⟩⟩⟩⟩, rfl, fun _ => ⟨by kernel_rfl, by kernel_rfl⟩⟩
theorem ty25 : TyFact Tryz.prog tt 25 (.slice tPush) := ⟨by kernel_rfl, ⟨_, Tryz.underlying25, rfl⟩, rfl, trivial⟩
theorem ty27 : TyFact Tryz.prog tt 27 tTable := ⟨by kernel_rfl, ⟨_, Tryz.underlying27, ⟨rfl, rfl, trivial⟩⟩, rfl, fun h => by cases h⟩
theorem ty28 : TyFact Tryz.prog tt 28 (.slice tHead) := ⟨by kernel_rfl, ⟨_, Tryz.underlying28, rfl⟩, rfl, trivial⟩
theorem ty33 : TyFact Tryz.prog tt 33 tPush := ⟨by kernel_rfl, ⟨_, Tryz.underlying33, ⟨rfl, rfl, ⟨rfl, rfl, trivial⟩⟩⟩, rfl, fun h => by cases h⟩
theorem ty35 : TyFact Tryz.prog tt 35 tLight := ⟨by kernel_rfl, ⟨_, Tryz.underlying35, ⟨rfl, rfl, ⟨rfl, rfl, ⟨rfl, rfl, ⟨rfl, rfl, trivial⟩⟩⟩⟩⟩, rfl, fun h => by cases h⟩
theorem ty38 : TyFact Tryz.prog tt 38 (.slice bs) := ⟨by kernel_rfl, ⟨_, Tryz.underlying38, rfl⟩, rfl, trivial⟩
theorem ty40 : TyFact Tryz.prog tt 40 tQc := ⟨by kernel_rfl, ⟨_, Tryz.underlying40, ⟨rfl, rfl, ⟨rfl, rfl, ⟨rfl, rfl, ⟨rfl, rfl, ⟨rfl, rfl, trivial⟩⟩⟩⟩⟩⟩, rfl, fun h => by cases h⟩
theorem ty42 : TyFact Tryz.prog tt 42 tProof := ⟨by kernel_rfl, ⟨_, Tryz.underlying42, ⟨rfl, rfl, ⟨rfl, rfl, trivial⟩⟩⟩, rfl, fun h => by cases h⟩
theorem ty48 : TyFact Tryz.prog tt 48 tVote := ⟨by kernel_rfl, ⟨_, Tryz.underlying48, ⟨rfl, rfl, ⟨rfl, rfl, ⟨rfl, rfl, ⟨rfl, rfl, ⟨rfl, rfl, trivial⟩⟩⟩⟩⟩⟩, rfl, fun h => by cases h⟩
theorem ty50 : TyFact Tryz.prog tt 50 tHead := ⟨by kernel_rfl, ⟨_, Tryz.underlying50, ⟨rfl, rfl, ⟨rfl, rfl, ⟨rfl, rfl, ⟨rfl, rfl, ⟨rfl, rfl, ⟨rfl, rfl, trivial⟩⟩⟩⟩⟩⟩⟩, rfl, fun h => by cases h⟩
theorem ty52 : TyFact Tryz.prog tt 52 tBlock := ⟨by kernel_rfl, ⟨_, Tryz.underlying52, ⟨rfl, rfl, ⟨rfl, rfl, trivial⟩⟩⟩, rfl, fun h => by cases h⟩
theorem ty53 : TyFact Tryz.prog tt 53 (.slice tEntry) := ⟨by kernel_rfl, ⟨_, Tryz.underlying53, rfl⟩, rfl, trivial⟩
theorem ty55 : TyFact Tryz.prog tt 55 tTc := ⟨by kernel_rfl, ⟨_, Tryz.underlying55, ⟨rfl, rfl, ⟨rfl, rfl, trivial⟩⟩⟩, rfl, fun h => by cases h⟩
theorem ty57 : TyFact Tryz.prog tt 57 tIncl := ⟨by kernel_rfl, ⟨_, Tryz.underlying57, ⟨rfl, rfl, ⟨rfl, rfl, ⟨rfl, rfl, ⟨rfl, rfl, ⟨rfl, rfl, trivial⟩⟩⟩⟩⟩⟩, rfl, fun h => by cases h⟩
theorem ty59 : TyFact Tryz.prog tt 59 tMsg := ⟨by kernel_rfl, ⟨_, Tryz.underlying59, ⟨rfl, rfl, ⟨rfl, rfl, ⟨rfl, rfl, ⟨rfl, rfl, ⟨rfl, rfl, ⟨rfl, rfl, ⟨rfl, rfl, ⟨rfl, rfl, trivial⟩⟩⟩⟩⟩⟩⟩⟩⟩, rfl, fun h => by cases h⟩
theorem ty102 : TyFact Tryz.prog tt 102 (.slice tEvent) := ⟨by kernel_rfl, ⟨_, Tryz.underlying102, rfl⟩, rfl, trivial⟩
theorem ty117 : TyFact Tryz.prog tt 117 tLimits := ⟨by kernel_rfl, ⟨_, Tryz.underlying117, ⟨rfl, rfl, ⟨rfl, rfl, ⟨rfl, rfl, ⟨rfl, rfl, ⟨rfl, rfl, trivial⟩⟩⟩⟩⟩⟩, rfl, fun _ => ⟨by kernel_rfl, by kernel_rfl⟩⟩
theorem ty118 : TyFact Tryz.prog tt 118 tVote := ⟨by kernel_rfl, ⟨_, Tryz.underlying118, ⟨rfl, rfl, ⟨rfl, rfl, ⟨rfl, rfl, ⟨rfl, rfl, ⟨rfl, rfl, trivial⟩⟩⟩⟩⟩⟩, rfl, fun h => by cases h⟩
theorem ty119 : TyFact Tryz.prog tt 119 tQc := ⟨by kernel_rfl, ⟨_, Tryz.underlying119, ⟨rfl, rfl, ⟨rfl, rfl, ⟨rfl, rfl, ⟨rfl, rfl, ⟨rfl, rfl, trivial⟩⟩⟩⟩⟩⟩, rfl, fun h => by cases h⟩
theorem ty121 : TyFact Tryz.prog tt 121 tHead := ⟨by kernel_rfl, ⟨_, Tryz.underlying121, ⟨rfl, rfl, ⟨rfl, rfl, ⟨rfl, rfl, ⟨rfl, rfl, ⟨rfl, rfl, ⟨rfl, rfl, trivial⟩⟩⟩⟩⟩⟩⟩, rfl, fun h => by cases h⟩
theorem ty123 : TyFact Tryz.prog tt 123 tBlock := ⟨by kernel_rfl, ⟨_, Tryz.underlying123, ⟨rfl, rfl, ⟨rfl, rfl, trivial⟩⟩⟩, rfl, fun h => by cases h⟩
theorem ty124 : TyFact Tryz.prog tt 124 (.slice tEntry) := ⟨by kernel_rfl, ⟨_, Tryz.underlying124, rfl⟩, rfl, trivial⟩
theorem ty126 : TyFact Tryz.prog tt 126 tTc := ⟨by kernel_rfl, ⟨_, Tryz.underlying126, ⟨rfl, rfl, ⟨rfl, rfl, trivial⟩⟩⟩, rfl, fun h => by cases h⟩
theorem ty127 : TyFact Tryz.prog tt 127 (.slice tHead) := ⟨by kernel_rfl, ⟨_, Tryz.underlying127, rfl⟩, rfl, trivial⟩
theorem ty129 : TyFact Tryz.prog tt 129 tProof := ⟨by kernel_rfl, ⟨_, Tryz.underlying129, ⟨rfl, rfl, ⟨rfl, rfl, trivial⟩⟩⟩, rfl, fun h => by cases h⟩
theorem ty130 : TyFact Tryz.prog tt 130 tIncl := ⟨by kernel_rfl, ⟨_, Tryz.underlying130, ⟨rfl, rfl, ⟨rfl, rfl, ⟨rfl, rfl, ⟨rfl, rfl, ⟨rfl, rfl, trivial⟩⟩⟩⟩⟩⟩, rfl, fun h => by cases h⟩
theorem ty132 : TyFact Tryz.prog tt 132 tMsg := ⟨by kernel_rfl, ⟨_, Tryz.underlying132, ⟨rfl, rfl, ⟨rfl, rfl, ⟨rfl, rfl, ⟨rfl, rfl, ⟨rfl, rfl, ⟨rfl, rfl, ⟨rfl, rfl, ⟨rfl, rfl, trivial⟩⟩⟩⟩⟩⟩⟩⟩⟩, rfl, fun h => by cases h⟩
theorem ty137 : TyFact Tryz.prog tt 137 (.slice tMsg) := ⟨by kernel_rfl, ⟨_, Tryz.underlying137, rfl⟩, rfl, trivial⟩
theorem ty141 : TyFact Tryz.prog tt 141 tEvent := ⟨by kernel_rfl, ⟨_, Tryz.underlying141, ⟨rfl, rfl, ⟨rfl, rfl, ⟨rfl, rfl, trivial⟩⟩⟩⟩, rfl, fun h => by cases h⟩
theorem ty145 : TyFact Tryz.prog tt 145 (.slice tMsg) := ⟨by kernel_rfl, ⟨_, Tryz.underlying145, rfl⟩, rfl, trivial⟩
theorem ty175 : TyFact Tryz.prog tt 175 tl01Cur := ⟨by kernel_rfl, ⟨_, Tryz.underlying175, ⟨rfl, rfl, ⟨rfl, rfl, ⟨rfl, rfl, trivial⟩⟩⟩⟩, rfl, fun h => by cases h⟩
theorem ty185 : TyFact Tryz.prog tt 185 twriter := ⟨by kernel_rfl, ⟨_, Tryz.underlying185, ⟨rfl, rfl, trivial⟩⟩, rfl, fun h => by cases h⟩
theorem ty204 : TyFact Tryz.prog tt 204 tEntry := ⟨by kernel_rfl, ⟨_, Tryz.underlying204, ⟨rfl, rfl, ⟨rfl, rfl, ⟨rfl, rfl, trivial⟩⟩⟩⟩, rfl, fun h => by cases h⟩
theorem ty261 : TyFact Tryz.prog tt 261 tPush := ⟨by kernel_rfl, ⟨_, Tryz.underlying261, ⟨rfl, rfl, ⟨rfl, rfl, trivial⟩⟩⟩, rfl, fun h => by cases h⟩
theorem ty263 : TyFact Tryz.prog tt 263 is := ⟨by kernel_rfl, ⟨_, Tryz.underlying263, rfl⟩, rfl, trivial⟩
theorem ty270 : TyFact Tryz.prog tt 270 (.slice tVote) := ⟨by kernel_rfl, ⟨_, Tryz.underlying270, rfl⟩, rfl, trivial⟩
theorem ty287 : TyFact Tryz.prog tt 287 tl01Cur := ⟨by kernel_rfl, ⟨_, Tryz.underlying287, ⟨rfl, rfl, ⟨rfl, rfl, ⟨rfl, rfl, trivial⟩⟩⟩⟩, rfl, fun h => by cases h⟩
theorem ty302 : TyFact Tryz.prog tt 302 (.slice .str) := ⟨by kernel_rfl, ⟨_, Tryz.underlying302, rfl⟩, rfl, trivial⟩
theorem ty334 : TyFact Tryz.prog tt 334 (.arr 64 i64) := ⟨by kernel_rfl, ⟨_, Tryz.underlying334, rfl⟩, rfl, trivial⟩
theorem ty335 : TyFact Tryz.prog tt 335 (.arr 8 i64) := ⟨by kernel_rfl, ⟨_, Tryz.underlying335, rfl⟩, rfl, trivial⟩
theorem ty348 : TyFact Tryz.prog tt 348 tEntry := ⟨by kernel_rfl, ⟨_, Tryz.underlying348, ⟨rfl, rfl, ⟨rfl, rfl, ⟨rfl, rfl, trivial⟩⟩⟩⟩, rfl, fun h => by cases h⟩
theorem tok : TOK Tryz.prog tt := tok_of ⟨ty3, ty4, ty5, ty9, ty22, ty24, ty25, ty27, ty28, ty33, ty35, ty38, ty40, ty42, ty48, ty50, ty52, ty53, ty55, ty57, ty59, ty102, ty117, ty118, ty119, ty121, ty123, ty124, ty126, ty127, ty129, ty130, ty132, ty137, ty141, ty145, ty175, ty185, ty204, ty261, ty263, ty270, ty287, ty302, ty334, ty335, ty348, trivial⟩
theorem fol : Tryz.prog.follows .mixedOrders = true := by kernel_rfl
end Go.Ev.G
