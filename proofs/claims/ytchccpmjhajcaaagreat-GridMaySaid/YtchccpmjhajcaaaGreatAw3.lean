/- What law25 awake calls, reckoned once each: level 3. -/
import Derived.Test.YtchccpmjhajcaaaGreatAw2
set_option linter.unusedVariables false
set_option linter.unusedSimpArgs false
set_option linter.unusedSectionVars false
namespace VE
open Go
def mem3 : Tr (List Memo) := (.node (.node (.node (.node (.node (.node .nil (some [m124, m2]) (.node (.node (.node .nil (some [m167, m68]) .nil) (some [m49]) .nil) none (.node .nil (some [m48, m47]) .nil))) none .nil) none (.node .nil none (.node .nil none (.node .nil none (.node .nil (some [m170, m74]) .nil))))) none (.node (.node .nil none (.node .nil none (.node (.node (.node .nil (some [m57, m56, m52, m51]) .nil) none .nil) none (.node .nil (some [m169, m70]) .nil)))) none (.node .nil none (.node (.node .nil (some [m101, m58, m53, m40, m34, m31, m27, m21, m18, m15, m11, m6, m4]) .nil) none (.node (.node .nil (some [m164, m65]) .nil) none .nil))))) none (.node (.node (.node (.node (.node .nil none (.node (.node .nil (some [m72, m71]) .nil) none .nil)) none .nil) none (.node .nil none (.node .nil (some [m93, m44]) .nil))) none (.node (.node .nil none (.node (.node .nil (some [m178, m82]) .nil) none .nil)) none (.node .nil (some [m0]) (.node (.node .nil (some [m62]) .nil) none .nil)))) none (.node .nil none (.node (.node (.node (.node (.node .nil (some [m55, m50]) .nil) none .nil) none .nil) none .nil) none (.node (.node (.node (.node .nil (some [m168, m165, m69, m66]) .nil) none .nil) none .nil) none .nil))))) none (.node (.node (.node (.node (.node .nil none (.node (.node .nil (some [m61]) .nil) none .nil)) none .nil) none (.node (.node .nil none (.node (.node .nil (some [m177, m81]) .nil) none .nil)) none (.node (.node .nil (some [m208, m199, m191, m151, m148, m139, m133, m130]) .nil) none .nil))) none (.node (.node (.node (.node .nil none (.node .nil (some [m80]) .nil)) none (.node (.node .nil (some [m78]) .nil) none (.node .nil (some [m60]) .nil))) none (.node .nil none (.node (.node .nil (some [m59, m54]) .nil) (some [m154, m96]) .nil))) none (.node (.node (.node .nil (some [m35, m32, m28, m22, m19, m16, m12, m5]) .nil) none .nil) none (.node .nil none (.node (.node .nil (some [m171, m75]) .nil) none .nil))))) none (.node (.node (.node (.node (.node .nil none (.node .nil (some [m174, m79]) .nil)) none (.node (.node (.node .nil (some [m73]) .nil) none .nil) none .nil)) (some [m125, m3]) (.node .nil none (.node .nil (some [m94, m45]) .nil))) none (.node .nil none (.node .nil none (.node (.node .nil (some [m162, m63]) .nil) none .nil)))) none (.node .nil none (.node (.node .nil none (.node .nil none (.node .nil (some [m163, m64]) .nil))) (some [m123, m1]) (.node (.node (.node (.node .nil (some [m166, m67]) .nil) none .nil) none .nil) none (.node .nil none (.node .nil (some [m176, m175]) .nil))))))))
def m7 : Memo := ⟨k_edge_spot_region, [(.ag [z, (.sl 0 0 2 2 1 true), (.sl 1 0 1 1 1 true), (.sl 2 0 1 1 6 true), .sn, z, z, (.b true), (.b true)]), z, z], [.cells [(.i .i64 (.ofNat 3)), (.i .i64 (.ofNat 2))], .cells [(.i .i64 (.ofNat 1))], .cells [z, z, (.s [97, 98]), z, z, z]], (.tu [(.ag [z, z, (.i .i64 (.ofNat 1)), (.i .i64 (.ofNat 1))]), (.b true)]), []⟩
def m8 : Memo := ⟨k_edge_spot_parts, [(.ag [z, (.sl 0 0 2 2 1 true), (.sl 1 0 1 1 1 true), (.sl 2 0 1 1 6 true), .sn, z, z, (.b true), (.b true)]), (.i .i64 (.negSucc 0)), (.i .i64 (.negSucc 0)), z, (.i .i64 (.negSucc 0))], [.cells [(.i .i64 (.ofNat 3)), (.i .i64 (.ofNat 2))], .cells [(.i .i64 (.ofNat 1))], .cells [z, z, (.s [97, 98]), z, z, z]], (.b false), []⟩
def m9 : Memo := ⟨k_edge_spot_parts, [(.ag [z, (.sl 0 0 2 2 1 true), (.sl 1 0 1 1 1 true), (.sl 2 0 1 1 6 true), .sn, z, z, (.b true), (.b true)]), (.i .i64 (.negSucc 0)), (.i .i64 (.negSucc 0)), (.i .i64 (.negSucc 0)), z], [.cells [(.i .i64 (.ofNat 3)), (.i .i64 (.ofNat 2))], .cells [(.i .i64 (.ofNat 1))], .cells [z, z, (.s [97, 98]), z, z, z]], (.b false), []⟩
def m13 : Memo := ⟨k_edge_spot_region, [(.ag [z, (.sl 0 0 2 2 1 true), (.sl 1 0 1 1 1 true), (.sl 2 0 1 1 6 true), .sn, z, z, (.b false), (.b true)]), z, z], [.cells [(.i .i64 (.ofNat 3)), (.i .i64 (.ofNat 2))], .cells [(.i .i64 (.ofNat 1))], .cells [z, z, (.s [97, 98]), z, z, z]], (.tu [(.ag [z, z, (.i .i64 (.ofNat 1)), (.i .i64 (.ofNat 1))]), (.b true)]), []⟩
def m23 : Memo := ⟨k_edge_spot_region, [(.ag [z, (.sl 0 0 2 2 1 true), (.sl 1 0 1 1 1 true), (.sl 2 0 1 1 6 true), .sn, (.i .i64 (.ofNat 1)), z, (.b true), (.b true)]), z, (.i .i64 (.ofNat 1))], [.cells [(.i .i64 (.ofNat 3)), (.i .i64 (.ofNat 2))], .cells [(.i .i64 (.ofNat 1))], .cells [z, z, (.s [97, 98]), z, z, z]], (.tu [(.ag [z, (.i .i64 (.ofNat 1)), (.i .i64 (.ofNat 1)), (.i .i64 (.ofNat 1))]), (.b true)]), []⟩
def m24 : Memo := ⟨k_edge_spot_region, [(.ag [z, (.sl 0 0 2 2 1 true), (.sl 1 0 1 1 1 true), (.sl 2 0 1 1 6 true), .sn, (.i .i64 (.ofNat 1)), z, (.b true), (.b true)]), z, z], [.cells [(.i .i64 (.ofNat 3)), (.i .i64 (.ofNat 2))], .cells [(.i .i64 (.ofNat 1))], .cells [z, z, (.s [97, 98]), z, z, z]], (.tu [(.ag [z, z, (.i .i64 (.ofNat 1)), (.i .i64 (.ofNat 1))]), (.b true)]), []⟩
def m25 : Memo := ⟨k_edge_spot_parts, [(.ag [z, (.sl 0 0 2 2 1 true), (.sl 1 0 1 1 1 true), (.sl 2 0 1 1 6 true), .sn, (.i .i64 (.ofNat 1)), z, (.b true), (.b true)]), (.i .i64 (.negSucc 0)), z, (.i .i64 (.negSucc 0)), (.i .i64 (.ofNat 1))], [.cells [(.i .i64 (.ofNat 3)), (.i .i64 (.ofNat 2))], .cells [(.i .i64 (.ofNat 1))], .cells [z, z, (.s [97, 98]), z, z, z]], (.b false), []⟩
def m29 : Memo := ⟨k_edge_spot_region, [(.ag [z, (.sl 0 0 2 2 1 true), (.sl 1 0 1 1 1 true), (.sl 2 0 1 1 6 true), .sn, (.i .i64 (.ofNat 1)), z, (.b false), (.b true)]), z, (.i .i64 (.ofNat 1))], [.cells [(.i .i64 (.ofNat 3)), (.i .i64 (.ofNat 2))], .cells [(.i .i64 (.ofNat 1))], .cells [z, z, (.s [97, 98]), z, z, z]], (.tu [(.ag [z, (.i .i64 (.ofNat 1)), (.i .i64 (.ofNat 1)), (.i .i64 (.ofNat 1))]), (.b true)]), []⟩
def m36 : Memo := ⟨k_edge_spot_parts, [(.ag [z, (.sl 0 0 2 2 1 true), (.sl 1 0 1 1 1 true), (.sl 2 0 1 1 6 true), .sn, (.i .i64 (.ofNat 2)), z, (.b true), (.b true)]), (.i .i64 (.negSucc 0)), (.i .i64 (.ofNat 2)), z, (.i .i64 (.ofNat 2))], [.cells [(.i .i64 (.ofNat 3)), (.i .i64 (.ofNat 2))], .cells [(.i .i64 (.ofNat 1))], .cells [z, z, (.s [97, 98]), z, z, z]], (.b false), []⟩
def m37 : Memo := ⟨k_edge_spot_region, [(.ag [z, (.sl 0 0 2 2 1 true), (.sl 1 0 1 1 1 true), (.sl 2 0 1 1 6 true), .sn, (.i .i64 (.ofNat 2)), z, (.b true), (.b true)]), z, (.i .i64 (.ofNat 1))], [.cells [(.i .i64 (.ofNat 3)), (.i .i64 (.ofNat 2))], .cells [(.i .i64 (.ofNat 1))], .cells [z, z, (.s [97, 98]), z, z, z]], (.tu [(.ag [z, (.i .i64 (.ofNat 1)), (.i .i64 (.ofNat 1)), (.i .i64 (.ofNat 1))]), (.b true)]), []⟩
def m38 : Memo := ⟨k_edge_spot_parts, [(.ag [z, (.sl 0 0 2 2 1 true), (.sl 1 0 1 1 1 true), (.sl 2 0 1 1 6 true), .sn, (.i .i64 (.ofNat 2)), z, (.b true), (.b true)]), (.i .i64 (.negSucc 0)), (.i .i64 (.ofNat 1)), (.i .i64 (.negSucc 0)), (.i .i64 (.ofNat 2))], [.cells [(.i .i64 (.ofNat 3)), (.i .i64 (.ofNat 2))], .cells [(.i .i64 (.ofNat 1))], .cells [z, z, (.s [97, 98]), z, z, z]], (.b false), []⟩
def m41 : Memo := ⟨k_edge_spot_region, [(.ag [z, (.sl 0 0 2 2 1 true), (.sl 1 0 1 1 1 true), (.sl 2 0 1 1 6 true), .sn, z, z, (.b true), (.b false)]), z, z], [.cells [(.i .i64 (.ofNat 3)), (.i .i64 (.ofNat 2))], .cells [(.i .i64 (.ofNat 1))], .cells [z, z, (.s [97, 98]), z, z, z]], (.tu [(.ag [z, z, (.i .i64 (.ofNat 1)), (.i .i64 (.ofNat 1))]), (.b true)]), []⟩
def m43 : Memo := ⟨k_edge_Arms, [(.ag [z, (.sl 0 0 2 2 1 true), (.sl 1 0 1 1 1 true), (.sl 2 0 1 1 6 true), .sn]), (.i .i64 (.ofNat 1)), (.i .i64 (.ofNat 1))], [.cells [(.i .i64 (.ofNat 3)), (.i .i64 (.ofNat 2))], .cells [(.i .i64 (.ofNat 1))], .cells [z, z, (.s [97, 98]), z, z, z]], (.tu [z, z]), []⟩
def m46 : Memo := ⟨k_sheet_Get, [(.ag [z, (.sl 0 0 2 2 1 true), (.sl 1 0 1 1 1 true), (.sl 2 0 1 1 6 true), .sn]), z, z], [.cells [(.i .i64 (.ofNat 3)), (.i .i64 (.ofNat 2))], .cells [(.i .i64 (.ofNat 1))], .cells [z, z, (.s [97, 98]), z, z, z]], (.tu [(.ag [z, z, (.s [97, 98]), z, z, z]), z]), []⟩
def m76 : Memo := ⟨k_bidi_Resolve, [(.sl 0 0 2 2 3 false), z], [.cells [z, (.i .i64 (.ofNat 1)), (.i .i64 (.ofNat 97)), (.i .i64 (.ofNat 1)), (.i .i64 (.ofNat 1)), (.i .i64 (.ofNat 98))]], (.sl 1 0 2 2 1 false), [.cells [z, z]]⟩
def m83 : Memo := ⟨k_place_Slots, [(.sl 0 0 2 2 3 false), (.sl 1 0 2 2 1 false), (.ag [z, (.i .i64 (.ofNat 2)), (.i .i64 (.ofNat 2)), (.i .i64 (.ofNat 1)), z]), z, (.i .i64 (.ofNat 3)), (.i .i64 (.ofNat 2))], [.cells [z, (.i .i64 (.ofNat 1)), (.i .i64 (.ofNat 97)), (.i .i64 (.ofNat 1)), (.i .i64 (.ofNat 1)), (.i .i64 (.ofNat 98))], .cells [z, z]], (.tu [(.sl 2 0 3 3 6 false), z]), [.cells [(.i .i64 (.ofNat 4)), z, z, z, z, (.i .i64 (.ofNat 97)), (.i .i64 (.ofNat 4)), z, z, (.i .i64 (.ofNat 1)), z, (.i .i64 (.ofNat 98)), (.i .i64 (.ofNat 2)), z, z, z, z, z]]⟩
def m85 : Memo := ⟨k_edge_Arms, [(.ag [z, (.sl 0 0 2 2 1 true), (.sl 1 0 1 1 1 true), (.sl 2 0 1 1 6 true), .sn]), (.i .i64 (.ofNat 2)), (.i .i64 (.ofNat 1))], [.cells [(.i .i64 (.ofNat 3)), (.i .i64 (.ofNat 2))], .cells [(.i .i64 (.ofNat 1))], .cells [z, z, (.s [97, 98]), z, z, z]], (.tu [z, z]), []⟩
def m87 : Memo := ⟨k_edge_Arms, [(.ag [z, (.sl 0 0 2 2 1 true), (.sl 1 0 1 1 1 true), (.sl 2 0 1 1 6 true), .sn]), (.i .i64 (.ofNat 3)), (.i .i64 (.ofNat 1))], [.cells [(.i .i64 (.ofNat 3)), (.i .i64 (.ofNat 2))], .cells [(.i .i64 (.ofNat 1))], .cells [z, z, (.s [97, 98]), z, z, z]], (.tu [z, z]), []⟩
def m89 : Memo := ⟨k_edge_spot_region, [(.ag [z, (.sl 0 0 2 2 1 true), (.sl 1 0 1 1 1 true), (.sl 2 0 1 1 6 true), .sn, (.i .i64 (.ofNat 1)), z, (.b true), (.b false)]), z, z], [.cells [(.i .i64 (.ofNat 3)), (.i .i64 (.ofNat 2))], .cells [(.i .i64 (.ofNat 1))], .cells [z, z, (.s [97, 98]), z, z, z]], (.tu [(.ag [z, z, (.i .i64 (.ofNat 1)), (.i .i64 (.ofNat 1))]), (.b true)]), []⟩
def m90 : Memo := ⟨k_edge_spot_region, [(.ag [z, (.sl 0 0 2 2 1 true), (.sl 1 0 1 1 1 true), (.sl 2 0 1 1 6 true), .sn, (.i .i64 (.ofNat 1)), z, (.b true), (.b false)]), z, (.i .i64 (.ofNat 1))], [.cells [(.i .i64 (.ofNat 3)), (.i .i64 (.ofNat 2))], .cells [(.i .i64 (.ofNat 1))], .cells [z, z, (.s [97, 98]), z, z, z]], (.tu [(.ag [z, (.i .i64 (.ofNat 1)), (.i .i64 (.ofNat 1)), (.i .i64 (.ofNat 1))]), (.b true)]), []⟩
def m92 : Memo := ⟨k_edge_Arms, [(.ag [z, (.sl 0 0 2 2 1 true), (.sl 1 0 1 1 1 true), (.sl 2 0 1 1 6 true), .sn]), (.i .i64 (.ofNat 5)), (.i .i64 (.ofNat 1))], [.cells [(.i .i64 (.ofNat 3)), (.i .i64 (.ofNat 2))], .cells [(.i .i64 (.ofNat 1))], .cells [z, z, (.s [97, 98]), z, z, z]], (.tu [z, z]), []⟩
def m95 : Memo := ⟨k_sheet_Get, [(.ag [z, (.sl 0 0 2 2 1 true), (.sl 1 0 1 1 1 true), (.sl 2 0 1 1 6 true), .sn]), z, (.i .i64 (.ofNat 1))], [.cells [(.i .i64 (.ofNat 3)), (.i .i64 (.ofNat 2))], .cells [(.i .i64 (.ofNat 1))], .cells [z, z, (.s [97, 98]), z, z, z]], (.tu [(.ag [z, (.i .i64 (.ofNat 1)), (.s []), z, z, z]), z]), []⟩
def m97 : Memo := ⟨k_edge_Arms, [(.ag [z, (.sl 0 0 2 2 1 true), (.sl 1 0 1 1 1 true), (.sl 2 0 1 1 6 true), .sn]), (.i .i64 (.ofNat 6)), (.i .i64 (.ofNat 1))], [.cells [(.i .i64 (.ofNat 3)), (.i .i64 (.ofNat 2))], .cells [(.i .i64 (.ofNat 1))], .cells [z, z, (.s [97, 98]), z, z, z]], (.tu [z, z]), []⟩
def m99 : Memo := ⟨k_edge_spot_region, [(.ag [z, (.sl 0 0 2 2 1 true), (.sl 1 0 1 1 1 true), (.sl 2 0 1 1 6 true), .sn, (.i .i64 (.ofNat 2)), z, (.b true), (.b false)]), z, (.i .i64 (.ofNat 1))], [.cells [(.i .i64 (.ofNat 3)), (.i .i64 (.ofNat 2))], .cells [(.i .i64 (.ofNat 1))], .cells [z, z, (.s [97, 98]), z, z, z]], (.tu [(.ag [z, (.i .i64 (.ofNat 1)), (.i .i64 (.ofNat 1)), (.i .i64 (.ofNat 1))]), (.b true)]), []⟩
def m102 : Memo := ⟨k_edge_spot_region, [(.ag [z, (.sl 0 0 2 2 1 true), (.sl 1 0 1 1 1 true), (.sl 2 0 1 1 6 true), .sn, z, (.i .i64 (.ofNat 1)), (.b true), (.b true)]), z, z], [.cells [(.i .i64 (.ofNat 3)), (.i .i64 (.ofNat 2))], .cells [(.i .i64 (.ofNat 1))], .cells [z, z, (.s [97, 98]), z, z, z]], (.tu [(.ag [z, z, (.i .i64 (.ofNat 1)), (.i .i64 (.ofNat 1))]), (.b true)]), []⟩
def m103 : Memo := ⟨k_edge_spot_parts, [(.ag [z, (.sl 0 0 2 2 1 true), (.sl 1 0 1 1 1 true), (.sl 2 0 1 1 6 true), .sn, z, (.i .i64 (.ofNat 1)), (.b true), (.b true)]), (.i .i64 (.ofNat 1)), (.i .i64 (.negSucc 0)), (.i .i64 (.ofNat 1)), z], [.cells [(.i .i64 (.ofNat 3)), (.i .i64 (.ofNat 2))], .cells [(.i .i64 (.ofNat 1))], .cells [z, z, (.s [97, 98]), z, z, z]], (.b false), []⟩
def m104 : Memo := ⟨k_edge_spot_parts, [(.ag [z, (.sl 0 0 2 2 1 true), (.sl 1 0 1 1 1 true), (.sl 2 0 1 1 6 true), .sn, z, (.i .i64 (.ofNat 1)), (.b true), (.b true)]), z, (.i .i64 (.negSucc 0)), (.i .i64 (.ofNat 1)), (.i .i64 (.negSucc 0))], [.cells [(.i .i64 (.ofNat 3)), (.i .i64 (.ofNat 2))], .cells [(.i .i64 (.ofNat 1))], .cells [z, z, (.s [97, 98]), z, z, z]], (.b false), []⟩
def m106 : Memo := ⟨k_edge_spot_region, [(.ag [z, (.sl 0 0 2 2 1 true), (.sl 1 0 1 1 1 true), (.sl 2 0 1 1 6 true), .sn, z, (.i .i64 (.ofNat 1)), (.b false), (.b true)]), z, z], [.cells [(.i .i64 (.ofNat 3)), (.i .i64 (.ofNat 2))], .cells [(.i .i64 (.ofNat 1))], .cells [z, z, (.s [97, 98]), z, z, z]], (.tu [(.ag [z, z, (.i .i64 (.ofNat 1)), (.i .i64 (.ofNat 1))]), (.b true)]), []⟩
def m110 : Memo := ⟨k_edge_spot_region, [(.ag [z, (.sl 0 0 2 2 1 true), (.sl 1 0 1 1 1 true), (.sl 2 0 1 1 6 true), .sn, (.i .i64 (.ofNat 1)), (.i .i64 (.ofNat 1)), (.b true), (.b true)]), z, (.i .i64 (.ofNat 1))], [.cells [(.i .i64 (.ofNat 3)), (.i .i64 (.ofNat 2))], .cells [(.i .i64 (.ofNat 1))], .cells [z, z, (.s [97, 98]), z, z, z]], (.tu [(.ag [z, (.i .i64 (.ofNat 1)), (.i .i64 (.ofNat 1)), (.i .i64 (.ofNat 1))]), (.b true)]), []⟩
def m111 : Memo := ⟨k_edge_spot_parts, [(.ag [z, (.sl 0 0 2 2 1 true), (.sl 1 0 1 1 1 true), (.sl 2 0 1 1 6 true), .sn, (.i .i64 (.ofNat 1)), (.i .i64 (.ofNat 1)), (.b true), (.b true)]), (.i .i64 (.ofNat 1)), z, (.i .i64 (.ofNat 1)), (.i .i64 (.ofNat 1))], [.cells [(.i .i64 (.ofNat 3)), (.i .i64 (.ofNat 2))], .cells [(.i .i64 (.ofNat 1))], .cells [z, z, (.s [97, 98]), z, z, z]], (.b false), []⟩
def m112 : Memo := ⟨k_edge_spot_region, [(.ag [z, (.sl 0 0 2 2 1 true), (.sl 1 0 1 1 1 true), (.sl 2 0 1 1 6 true), .sn, (.i .i64 (.ofNat 1)), (.i .i64 (.ofNat 1)), (.b true), (.b true)]), z, z], [.cells [(.i .i64 (.ofNat 3)), (.i .i64 (.ofNat 2))], .cells [(.i .i64 (.ofNat 1))], .cells [z, z, (.s [97, 98]), z, z, z]], (.tu [(.ag [z, z, (.i .i64 (.ofNat 1)), (.i .i64 (.ofNat 1))]), (.b true)]), []⟩
def m114 : Memo := ⟨k_edge_spot_region, [(.ag [z, (.sl 0 0 2 2 1 true), (.sl 1 0 1 1 1 true), (.sl 2 0 1 1 6 true), .sn, (.i .i64 (.ofNat 1)), (.i .i64 (.ofNat 1)), (.b false), (.b true)]), z, (.i .i64 (.ofNat 1))], [.cells [(.i .i64 (.ofNat 3)), (.i .i64 (.ofNat 2))], .cells [(.i .i64 (.ofNat 1))], .cells [z, z, (.s [97, 98]), z, z, z]], (.tu [(.ag [z, (.i .i64 (.ofNat 1)), (.i .i64 (.ofNat 1)), (.i .i64 (.ofNat 1))]), (.b true)]), []⟩
def m117 : Memo := ⟨k_edge_spot_parts, [(.ag [z, (.sl 0 0 2 2 1 true), (.sl 1 0 1 1 1 true), (.sl 2 0 1 1 6 true), .sn, (.i .i64 (.ofNat 2)), (.i .i64 (.ofNat 1)), (.b true), (.b true)]), z, (.i .i64 (.ofNat 2)), (.i .i64 (.ofNat 1)), (.i .i64 (.ofNat 2))], [.cells [(.i .i64 (.ofNat 3)), (.i .i64 (.ofNat 2))], .cells [(.i .i64 (.ofNat 1))], .cells [z, z, (.s [97, 98]), z, z, z]], (.b false), []⟩
def m118 : Memo := ⟨k_edge_spot_parts, [(.ag [z, (.sl 0 0 2 2 1 true), (.sl 1 0 1 1 1 true), (.sl 2 0 1 1 6 true), .sn, (.i .i64 (.ofNat 2)), (.i .i64 (.ofNat 1)), (.b true), (.b true)]), (.i .i64 (.ofNat 1)), (.i .i64 (.ofNat 1)), (.i .i64 (.ofNat 1)), (.i .i64 (.ofNat 2))], [.cells [(.i .i64 (.ofNat 3)), (.i .i64 (.ofNat 2))], .cells [(.i .i64 (.ofNat 1))], .cells [z, z, (.s [97, 98]), z, z, z]], (.b false), []⟩
def m119 : Memo := ⟨k_edge_spot_region, [(.ag [z, (.sl 0 0 2 2 1 true), (.sl 1 0 1 1 1 true), (.sl 2 0 1 1 6 true), .sn, (.i .i64 (.ofNat 2)), (.i .i64 (.ofNat 1)), (.b true), (.b true)]), z, (.i .i64 (.ofNat 1))], [.cells [(.i .i64 (.ofNat 3)), (.i .i64 (.ofNat 2))], .cells [(.i .i64 (.ofNat 1))], .cells [z, z, (.s [97, 98]), z, z, z]], (.tu [(.ag [z, (.i .i64 (.ofNat 1)), (.i .i64 (.ofNat 1)), (.i .i64 (.ofNat 1))]), (.b true)]), []⟩
def m126 : Memo := ⟨k_edge_spot_parts, [(.ag [(.i .i64 (.ofNat 1)), (.sl 0 0 2 2 1 true), (.sl 1 0 1 1 1 true), (.sl 2 0 1 1 6 true), .sn, (.i .i64 (.ofNat 2)), z, (.b true), (.b true)]), (.i .i64 (.negSucc 0)), (.i .i64 (.ofNat 2)), z, (.i .i64 (.ofNat 2))], [.cells [(.i .i64 (.ofNat 3)), (.i .i64 (.ofNat 2))], .cells [(.i .i64 (.ofNat 1))], .cells [z, z, (.s [97, 98]), z, z, z]], (.b false), []⟩
def m127 : Memo := ⟨k_edge_spot_region, [(.ag [(.i .i64 (.ofNat 1)), (.sl 0 0 2 2 1 true), (.sl 1 0 1 1 1 true), (.sl 2 0 1 1 6 true), .sn, (.i .i64 (.ofNat 2)), z, (.b true), (.b true)]), z, (.i .i64 (.ofNat 1))], [.cells [(.i .i64 (.ofNat 3)), (.i .i64 (.ofNat 2))], .cells [(.i .i64 (.ofNat 1))], .cells [z, z, (.s [97, 98]), z, z, z]], (.tu [(.ag [z, (.i .i64 (.ofNat 1)), (.i .i64 (.ofNat 1)), (.i .i64 (.ofNat 1))]), (.b true)]), []⟩
def m128 : Memo := ⟨k_edge_spot_parts, [(.ag [(.i .i64 (.ofNat 1)), (.sl 0 0 2 2 1 true), (.sl 1 0 1 1 1 true), (.sl 2 0 1 1 6 true), .sn, (.i .i64 (.ofNat 2)), z, (.b true), (.b true)]), (.i .i64 (.negSucc 0)), (.i .i64 (.ofNat 1)), (.i .i64 (.negSucc 0)), (.i .i64 (.ofNat 2))], [.cells [(.i .i64 (.ofNat 3)), (.i .i64 (.ofNat 2))], .cells [(.i .i64 (.ofNat 1))], .cells [z, z, (.s [97, 98]), z, z, z]], (.b false), []⟩
def m131 : Memo := ⟨k_edge_spot_region, [(.ag [(.i .i64 (.ofNat 1)), (.sl 0 0 2 2 1 true), (.sl 1 0 1 1 1 true), (.sl 2 0 1 1 6 true), .sn, (.i .i64 (.ofNat 1)), z, (.b false), (.b true)]), z, (.i .i64 (.ofNat 1))], [.cells [(.i .i64 (.ofNat 3)), (.i .i64 (.ofNat 2))], .cells [(.i .i64 (.ofNat 1))], .cells [z, z, (.s [97, 98]), z, z, z]], (.tu [(.ag [z, (.i .i64 (.ofNat 1)), (.i .i64 (.ofNat 1)), (.i .i64 (.ofNat 1))]), (.b true)]), []⟩
def m135 : Memo := ⟨k_edge_spot_region, [(.ag [(.i .i64 (.ofNat 1)), (.sl 0 0 2 2 1 true), (.sl 1 0 1 1 1 true), (.sl 2 0 1 1 6 true), .sn, (.i .i64 (.ofNat 1)), z, (.b true), (.b true)]), z, (.i .i64 (.ofNat 1))], [.cells [(.i .i64 (.ofNat 3)), (.i .i64 (.ofNat 2))], .cells [(.i .i64 (.ofNat 1))], .cells [z, z, (.s [97, 98]), z, z, z]], (.tu [(.ag [z, (.i .i64 (.ofNat 1)), (.i .i64 (.ofNat 1)), (.i .i64 (.ofNat 1))]), (.b true)]), []⟩
def m136 : Memo := ⟨k_edge_spot_region, [(.ag [(.i .i64 (.ofNat 1)), (.sl 0 0 2 2 1 true), (.sl 1 0 1 1 1 true), (.sl 2 0 1 1 6 true), .sn, (.i .i64 (.ofNat 1)), z, (.b true), (.b true)]), z, z], [.cells [(.i .i64 (.ofNat 3)), (.i .i64 (.ofNat 2))], .cells [(.i .i64 (.ofNat 1))], .cells [z, z, (.s [97, 98]), z, z, z]], (.tu [(.ag [z, z, (.i .i64 (.ofNat 1)), (.i .i64 (.ofNat 1))]), (.b true)]), []⟩
def m137 : Memo := ⟨k_edge_spot_parts, [(.ag [(.i .i64 (.ofNat 1)), (.sl 0 0 2 2 1 true), (.sl 1 0 1 1 1 true), (.sl 2 0 1 1 6 true), .sn, (.i .i64 (.ofNat 1)), z, (.b true), (.b true)]), (.i .i64 (.negSucc 0)), z, (.i .i64 (.negSucc 0)), (.i .i64 (.ofNat 1))], [.cells [(.i .i64 (.ofNat 3)), (.i .i64 (.ofNat 2))], .cells [(.i .i64 (.ofNat 1))], .cells [z, z, (.s [97, 98]), z, z, z]], (.b false), []⟩
def m140 : Memo := ⟨k_edge_spot_region, [(.ag [(.i .i64 (.ofNat 1)), (.sl 0 0 2 2 1 true), (.sl 1 0 1 1 1 true), (.sl 2 0 1 1 6 true), .sn, z, z, (.b false), (.b true)]), z, z], [.cells [(.i .i64 (.ofNat 3)), (.i .i64 (.ofNat 2))], .cells [(.i .i64 (.ofNat 1))], .cells [z, z, (.s [97, 98]), z, z, z]], (.tu [(.ag [z, z, (.i .i64 (.ofNat 1)), (.i .i64 (.ofNat 1))]), (.b true)]), []⟩
def m144 : Memo := ⟨k_edge_spot_region, [(.ag [(.i .i64 (.ofNat 1)), (.sl 0 0 2 2 1 true), (.sl 1 0 1 1 1 true), (.sl 2 0 1 1 6 true), .sn, z, z, (.b true), (.b true)]), z, z], [.cells [(.i .i64 (.ofNat 3)), (.i .i64 (.ofNat 2))], .cells [(.i .i64 (.ofNat 1))], .cells [z, z, (.s [97, 98]), z, z, z]], (.tu [(.ag [z, z, (.i .i64 (.ofNat 1)), (.i .i64 (.ofNat 1))]), (.b true)]), []⟩
def m145 : Memo := ⟨k_edge_spot_parts, [(.ag [(.i .i64 (.ofNat 1)), (.sl 0 0 2 2 1 true), (.sl 1 0 1 1 1 true), (.sl 2 0 1 1 6 true), .sn, z, z, (.b true), (.b true)]), (.i .i64 (.negSucc 0)), (.i .i64 (.negSucc 0)), z, (.i .i64 (.negSucc 0))], [.cells [(.i .i64 (.ofNat 3)), (.i .i64 (.ofNat 2))], .cells [(.i .i64 (.ofNat 1))], .cells [z, z, (.s [97, 98]), z, z, z]], (.b false), []⟩
def m146 : Memo := ⟨k_edge_spot_parts, [(.ag [(.i .i64 (.ofNat 1)), (.sl 0 0 2 2 1 true), (.sl 1 0 1 1 1 true), (.sl 2 0 1 1 6 true), .sn, z, z, (.b true), (.b true)]), (.i .i64 (.negSucc 0)), (.i .i64 (.negSucc 0)), (.i .i64 (.negSucc 0)), z], [.cells [(.i .i64 (.ofNat 3)), (.i .i64 (.ofNat 2))], .cells [(.i .i64 (.ofNat 1))], .cells [z, z, (.s [97, 98]), z, z, z]], (.b false), []⟩
def m149 : Memo := ⟨k_edge_spot_region, [(.ag [(.i .i64 (.ofNat 1)), (.sl 0 0 2 2 1 true), (.sl 1 0 1 1 1 true), (.sl 2 0 1 1 6 true), .sn, (.i .i64 (.ofNat 2)), z, (.b true), (.b false)]), z, (.i .i64 (.ofNat 1))], [.cells [(.i .i64 (.ofNat 3)), (.i .i64 (.ofNat 2))], .cells [(.i .i64 (.ofNat 1))], .cells [z, z, (.s [97, 98]), z, z, z]], (.tu [(.ag [z, (.i .i64 (.ofNat 1)), (.i .i64 (.ofNat 1)), (.i .i64 (.ofNat 1))]), (.b true)]), []⟩
def m152 : Memo := ⟨k_edge_Arms, [(.ag [(.i .i64 (.ofNat 1)), (.sl 0 0 2 2 1 true), (.sl 1 0 1 1 1 true), (.sl 2 0 1 1 6 true), .sn]), (.i .i64 (.ofNat 6)), (.i .i64 (.ofNat 1))], [.cells [(.i .i64 (.ofNat 3)), (.i .i64 (.ofNat 2))], .cells [(.i .i64 (.ofNat 1))], .cells [z, z, (.s [97, 98]), z, z, z]], (.tu [z, z]), []⟩
def m153 : Memo := ⟨k_sheet_Get, [(.ag [(.i .i64 (.ofNat 1)), (.sl 0 0 2 2 1 true), (.sl 1 0 1 1 1 true), (.sl 2 0 1 1 6 true), .sn]), z, (.i .i64 (.ofNat 1))], [.cells [(.i .i64 (.ofNat 3)), (.i .i64 (.ofNat 2))], .cells [(.i .i64 (.ofNat 1))], .cells [z, z, (.s [97, 98]), z, z, z]], (.tu [(.ag [z, (.i .i64 (.ofNat 1)), (.s []), z, z, z]), z]), []⟩
def m155 : Memo := ⟨k_edge_Arms, [(.ag [(.i .i64 (.ofNat 1)), (.sl 0 0 2 2 1 true), (.sl 1 0 1 1 1 true), (.sl 2 0 1 1 6 true), .sn]), (.i .i64 (.ofNat 5)), (.i .i64 (.ofNat 1))], [.cells [(.i .i64 (.ofNat 3)), (.i .i64 (.ofNat 2))], .cells [(.i .i64 (.ofNat 1))], .cells [z, z, (.s [97, 98]), z, z, z]], (.tu [z, z]), []⟩
def m157 : Memo := ⟨k_edge_spot_region, [(.ag [(.i .i64 (.ofNat 1)), (.sl 0 0 2 2 1 true), (.sl 1 0 1 1 1 true), (.sl 2 0 1 1 6 true), .sn, (.i .i64 (.ofNat 1)), z, (.b true), (.b false)]), z, z], [.cells [(.i .i64 (.ofNat 3)), (.i .i64 (.ofNat 2))], .cells [(.i .i64 (.ofNat 1))], .cells [z, z, (.s [97, 98]), z, z, z]], (.tu [(.ag [z, z, (.i .i64 (.ofNat 1)), (.i .i64 (.ofNat 1))]), (.b true)]), []⟩
def m158 : Memo := ⟨k_edge_spot_region, [(.ag [(.i .i64 (.ofNat 1)), (.sl 0 0 2 2 1 true), (.sl 1 0 1 1 1 true), (.sl 2 0 1 1 6 true), .sn, (.i .i64 (.ofNat 1)), z, (.b true), (.b false)]), z, (.i .i64 (.ofNat 1))], [.cells [(.i .i64 (.ofNat 3)), (.i .i64 (.ofNat 2))], .cells [(.i .i64 (.ofNat 1))], .cells [z, z, (.s [97, 98]), z, z, z]], (.tu [(.ag [z, (.i .i64 (.ofNat 1)), (.i .i64 (.ofNat 1)), (.i .i64 (.ofNat 1))]), (.b true)]), []⟩
def m160 : Memo := ⟨k_edge_Arms, [(.ag [(.i .i64 (.ofNat 1)), (.sl 0 0 2 2 1 true), (.sl 1 0 1 1 1 true), (.sl 2 0 1 1 6 true), .sn]), (.i .i64 (.ofNat 3)), (.i .i64 (.ofNat 1))], [.cells [(.i .i64 (.ofNat 3)), (.i .i64 (.ofNat 2))], .cells [(.i .i64 (.ofNat 1))], .cells [z, z, (.s [97, 98]), z, z, z]], (.tu [z, z]), []⟩
def m161 : Memo := ⟨k_sheet_Get, [(.ag [(.i .i64 (.ofNat 1)), (.sl 0 0 2 2 1 true), (.sl 1 0 1 1 1 true), (.sl 2 0 1 1 6 true), .sn]), z, z], [.cells [(.i .i64 (.ofNat 3)), (.i .i64 (.ofNat 2))], .cells [(.i .i64 (.ofNat 1))], .cells [z, z, (.s [97, 98]), z, z, z]], (.tu [(.ag [z, z, (.s [97, 98]), z, z, z]), z]), []⟩
def m172 : Memo := ⟨k_bidi_Resolve, [(.sl 0 0 2 2 3 false), (.i .i64 (.ofNat 1))], [.cells [z, (.i .i64 (.ofNat 1)), (.i .i64 (.ofNat 97)), (.i .i64 (.ofNat 1)), (.i .i64 (.ofNat 1)), (.i .i64 (.ofNat 98))]], (.sl 1 0 2 2 1 false), [.cells [(.i .i64 (.ofNat 2)), (.i .i64 (.ofNat 2))]]⟩
def m179 : Memo := ⟨k_place_Slots, [(.sl 0 0 2 2 3 false), (.sl 1 0 2 2 1 false), (.ag [z, (.i .i64 (.ofNat 2)), (.i .i64 (.ofNat 2)), (.i .i64 (.ofNat 1)), z]), (.i .i64 (.ofNat 1)), (.i .i64 (.ofNat 3)), (.i .i64 (.ofNat 3))], [.cells [z, (.i .i64 (.ofNat 1)), (.i .i64 (.ofNat 97)), (.i .i64 (.ofNat 1)), (.i .i64 (.ofNat 1)), (.i .i64 (.ofNat 98))], .cells [(.i .i64 (.ofNat 2)), (.i .i64 (.ofNat 2))]], (.tu [(.sl 2 0 3 3 6 false), z]), [.cells [(.i .i64 (.ofNat 2)), z, z, z, z, z, (.i .i64 (.ofNat 4)), z, z, z, z, (.i .i64 (.ofNat 97)), (.i .i64 (.ofNat 4)), z, z, (.i .i64 (.ofNat 1)), z, (.i .i64 (.ofNat 98))]]⟩
def m181 : Memo := ⟨k_edge_Arms, [(.ag [(.i .i64 (.ofNat 1)), (.sl 0 0 2 2 1 true), (.sl 1 0 1 1 1 true), (.sl 2 0 1 1 6 true), .sn]), (.i .i64 (.ofNat 2)), (.i .i64 (.ofNat 1))], [.cells [(.i .i64 (.ofNat 3)), (.i .i64 (.ofNat 2))], .cells [(.i .i64 (.ofNat 1))], .cells [z, z, (.s [97, 98]), z, z, z]], (.tu [z, z]), []⟩
def m183 : Memo := ⟨k_edge_Arms, [(.ag [(.i .i64 (.ofNat 1)), (.sl 0 0 2 2 1 true), (.sl 1 0 1 1 1 true), (.sl 2 0 1 1 6 true), .sn]), (.i .i64 (.ofNat 1)), (.i .i64 (.ofNat 1))], [.cells [(.i .i64 (.ofNat 3)), (.i .i64 (.ofNat 2))], .cells [(.i .i64 (.ofNat 1))], .cells [z, z, (.s [97, 98]), z, z, z]], (.tu [z, z]), []⟩
def m185 : Memo := ⟨k_edge_spot_region, [(.ag [(.i .i64 (.ofNat 1)), (.sl 0 0 2 2 1 true), (.sl 1 0 1 1 1 true), (.sl 2 0 1 1 6 true), .sn, z, z, (.b true), (.b false)]), z, z], [.cells [(.i .i64 (.ofNat 3)), (.i .i64 (.ofNat 2))], .cells [(.i .i64 (.ofNat 1))], .cells [z, z, (.s [97, 98]), z, z, z]], (.tu [(.ag [z, z, (.i .i64 (.ofNat 1)), (.i .i64 (.ofNat 1))]), (.b true)]), []⟩
def m187 : Memo := ⟨k_edge_spot_parts, [(.ag [(.i .i64 (.ofNat 1)), (.sl 0 0 2 2 1 true), (.sl 1 0 1 1 1 true), (.sl 2 0 1 1 6 true), .sn, (.i .i64 (.ofNat 2)), (.i .i64 (.ofNat 1)), (.b true), (.b true)]), z, (.i .i64 (.ofNat 2)), (.i .i64 (.ofNat 1)), (.i .i64 (.ofNat 2))], [.cells [(.i .i64 (.ofNat 3)), (.i .i64 (.ofNat 2))], .cells [(.i .i64 (.ofNat 1))], .cells [z, z, (.s [97, 98]), z, z, z]], (.b false), []⟩
def m188 : Memo := ⟨k_edge_spot_parts, [(.ag [(.i .i64 (.ofNat 1)), (.sl 0 0 2 2 1 true), (.sl 1 0 1 1 1 true), (.sl 2 0 1 1 6 true), .sn, (.i .i64 (.ofNat 2)), (.i .i64 (.ofNat 1)), (.b true), (.b true)]), (.i .i64 (.ofNat 1)), (.i .i64 (.ofNat 1)), (.i .i64 (.ofNat 1)), (.i .i64 (.ofNat 2))], [.cells [(.i .i64 (.ofNat 3)), (.i .i64 (.ofNat 2))], .cells [(.i .i64 (.ofNat 1))], .cells [z, z, (.s [97, 98]), z, z, z]], (.b false), []⟩
def m189 : Memo := ⟨k_edge_spot_region, [(.ag [(.i .i64 (.ofNat 1)), (.sl 0 0 2 2 1 true), (.sl 1 0 1 1 1 true), (.sl 2 0 1 1 6 true), .sn, (.i .i64 (.ofNat 2)), (.i .i64 (.ofNat 1)), (.b true), (.b true)]), z, (.i .i64 (.ofNat 1))], [.cells [(.i .i64 (.ofNat 3)), (.i .i64 (.ofNat 2))], .cells [(.i .i64 (.ofNat 1))], .cells [z, z, (.s [97, 98]), z, z, z]], (.tu [(.ag [z, (.i .i64 (.ofNat 1)), (.i .i64 (.ofNat 1)), (.i .i64 (.ofNat 1))]), (.b true)]), []⟩
def m192 : Memo := ⟨k_edge_spot_region, [(.ag [(.i .i64 (.ofNat 1)), (.sl 0 0 2 2 1 true), (.sl 1 0 1 1 1 true), (.sl 2 0 1 1 6 true), .sn, (.i .i64 (.ofNat 1)), (.i .i64 (.ofNat 1)), (.b false), (.b true)]), z, (.i .i64 (.ofNat 1))], [.cells [(.i .i64 (.ofNat 3)), (.i .i64 (.ofNat 2))], .cells [(.i .i64 (.ofNat 1))], .cells [z, z, (.s [97, 98]), z, z, z]], (.tu [(.ag [z, (.i .i64 (.ofNat 1)), (.i .i64 (.ofNat 1)), (.i .i64 (.ofNat 1))]), (.b true)]), []⟩
def m195 : Memo := ⟨k_edge_spot_region, [(.ag [(.i .i64 (.ofNat 1)), (.sl 0 0 2 2 1 true), (.sl 1 0 1 1 1 true), (.sl 2 0 1 1 6 true), .sn, (.i .i64 (.ofNat 1)), (.i .i64 (.ofNat 1)), (.b true), (.b true)]), z, (.i .i64 (.ofNat 1))], [.cells [(.i .i64 (.ofNat 3)), (.i .i64 (.ofNat 2))], .cells [(.i .i64 (.ofNat 1))], .cells [z, z, (.s [97, 98]), z, z, z]], (.tu [(.ag [z, (.i .i64 (.ofNat 1)), (.i .i64 (.ofNat 1)), (.i .i64 (.ofNat 1))]), (.b true)]), []⟩
def m196 : Memo := ⟨k_edge_spot_parts, [(.ag [(.i .i64 (.ofNat 1)), (.sl 0 0 2 2 1 true), (.sl 1 0 1 1 1 true), (.sl 2 0 1 1 6 true), .sn, (.i .i64 (.ofNat 1)), (.i .i64 (.ofNat 1)), (.b true), (.b true)]), (.i .i64 (.ofNat 1)), z, (.i .i64 (.ofNat 1)), (.i .i64 (.ofNat 1))], [.cells [(.i .i64 (.ofNat 3)), (.i .i64 (.ofNat 2))], .cells [(.i .i64 (.ofNat 1))], .cells [z, z, (.s [97, 98]), z, z, z]], (.b false), []⟩
def m197 : Memo := ⟨k_edge_spot_region, [(.ag [(.i .i64 (.ofNat 1)), (.sl 0 0 2 2 1 true), (.sl 1 0 1 1 1 true), (.sl 2 0 1 1 6 true), .sn, (.i .i64 (.ofNat 1)), (.i .i64 (.ofNat 1)), (.b true), (.b true)]), z, z], [.cells [(.i .i64 (.ofNat 3)), (.i .i64 (.ofNat 2))], .cells [(.i .i64 (.ofNat 1))], .cells [z, z, (.s [97, 98]), z, z, z]], (.tu [(.ag [z, z, (.i .i64 (.ofNat 1)), (.i .i64 (.ofNat 1))]), (.b true)]), []⟩
def m200 : Memo := ⟨k_edge_spot_region, [(.ag [(.i .i64 (.ofNat 1)), (.sl 0 0 2 2 1 true), (.sl 1 0 1 1 1 true), (.sl 2 0 1 1 6 true), .sn, z, (.i .i64 (.ofNat 1)), (.b false), (.b true)]), z, z], [.cells [(.i .i64 (.ofNat 3)), (.i .i64 (.ofNat 2))], .cells [(.i .i64 (.ofNat 1))], .cells [z, z, (.s [97, 98]), z, z, z]], (.tu [(.ag [z, z, (.i .i64 (.ofNat 1)), (.i .i64 (.ofNat 1))]), (.b true)]), []⟩
def m204 : Memo := ⟨k_edge_spot_region, [(.ag [(.i .i64 (.ofNat 1)), (.sl 0 0 2 2 1 true), (.sl 1 0 1 1 1 true), (.sl 2 0 1 1 6 true), .sn, z, (.i .i64 (.ofNat 1)), (.b true), (.b true)]), z, z], [.cells [(.i .i64 (.ofNat 3)), (.i .i64 (.ofNat 2))], .cells [(.i .i64 (.ofNat 1))], .cells [z, z, (.s [97, 98]), z, z, z]], (.tu [(.ag [z, z, (.i .i64 (.ofNat 1)), (.i .i64 (.ofNat 1))]), (.b true)]), []⟩
def m205 : Memo := ⟨k_edge_spot_parts, [(.ag [(.i .i64 (.ofNat 1)), (.sl 0 0 2 2 1 true), (.sl 1 0 1 1 1 true), (.sl 2 0 1 1 6 true), .sn, z, (.i .i64 (.ofNat 1)), (.b true), (.b true)]), (.i .i64 (.ofNat 1)), (.i .i64 (.negSucc 0)), (.i .i64 (.ofNat 1)), z], [.cells [(.i .i64 (.ofNat 3)), (.i .i64 (.ofNat 2))], .cells [(.i .i64 (.ofNat 1))], .cells [z, z, (.s [97, 98]), z, z, z]], (.b false), []⟩
def m206 : Memo := ⟨k_edge_spot_parts, [(.ag [(.i .i64 (.ofNat 1)), (.sl 0 0 2 2 1 true), (.sl 1 0 1 1 1 true), (.sl 2 0 1 1 6 true), .sn, z, (.i .i64 (.ofNat 1)), (.b true), (.b true)]), z, (.i .i64 (.negSucc 0)), (.i .i64 (.ofNat 1)), (.i .i64 (.negSucc 0))], [.cells [(.i .i64 (.ofNat 3)), (.i .i64 (.ofNat 2))], .cells [(.i .i64 (.ofNat 1))], .cells [z, z, (.s [97, 98]), z, z, z]], (.b false), []⟩
theorem memOk3 : MemoOk E mem3 := memoOk_of (.o (.o (.o (.o (.o (.s (.cons rfl v124 (.cons rfl v2 .nil)) .e (.o (.s (.cons rfl v49 .nil) (.s (.cons rfl v167 (.cons rfl v68 .nil)) .e .e) .e) (.s (.cons rfl v48 (.cons rfl v47 .nil)) .e .e))) .e) (.o .e (.o .e (.o .e (.s (.cons rfl v170 (.cons rfl v74 .nil)) .e .e))))) (.o (.o .e (.o .e (.o (.o (.s (.cons rfl v57 (.cons rfl v56 (.cons rfl v52 (.cons rfl v51 .nil)))) .e .e) .e) (.s (.cons rfl v169 (.cons rfl v70 .nil)) .e .e)))) (.o .e (.o (.s (.cons rfl v101 (.cons rfl v58 (.cons rfl v53 (.cons rfl v40 (.cons rfl v34 (.cons rfl v31 (.cons rfl v27 (.cons rfl v21 (.cons rfl v18 (.cons rfl v15 (.cons rfl v11 (.cons rfl v6 (.cons rfl v4 .nil))))))))))))) .e .e) (.o (.s (.cons rfl v164 (.cons rfl v65 .nil)) .e .e) .e))))) (.o (.o (.o (.o (.o .e (.o (.s (.cons rfl v72 (.cons rfl v71 .nil)) .e .e) .e)) .e) (.o .e (.s (.cons rfl v93 (.cons rfl v44 .nil)) .e .e))) (.o (.o .e (.o (.s (.cons rfl v178 (.cons rfl v82 .nil)) .e .e) .e)) (.s (.cons rfl v0 .nil) .e (.o (.s (.cons rfl v62 .nil) .e .e) .e)))) (.o .e (.o (.o (.o (.o (.s (.cons rfl v55 (.cons rfl v50 .nil)) .e .e) .e) .e) .e) (.o (.o (.o (.s (.cons rfl v168 (.cons rfl v165 (.cons rfl v69 (.cons rfl v66 .nil)))) .e .e) .e) .e) .e))))) (.o (.o (.o (.o (.o .e (.o (.s (.cons rfl v61 .nil) .e .e) .e)) .e) (.o (.o .e (.o (.s (.cons rfl v177 (.cons rfl v81 .nil)) .e .e) .e)) (.o (.s (.cons rfl v208 (.cons rfl v199 (.cons rfl v191 (.cons rfl v151 (.cons rfl v148 (.cons rfl v139 (.cons rfl v133 (.cons rfl v130 .nil)))))))) .e .e) .e))) (.o (.o (.o (.o .e (.s (.cons rfl v80 .nil) .e .e)) (.o (.s (.cons rfl v78 .nil) .e .e) (.s (.cons rfl v60 .nil) .e .e))) (.o .e (.s (.cons rfl v154 (.cons rfl v96 .nil)) (.s (.cons rfl v59 (.cons rfl v54 .nil)) .e .e) .e))) (.o (.o (.s (.cons rfl v35 (.cons rfl v32 (.cons rfl v28 (.cons rfl v22 (.cons rfl v19 (.cons rfl v16 (.cons rfl v12 (.cons rfl v5 .nil)))))))) .e .e) .e) (.o .e (.o (.s (.cons rfl v171 (.cons rfl v75 .nil)) .e .e) .e))))) (.o (.o (.s (.cons rfl v125 (.cons rfl v3 .nil)) (.o (.o .e (.s (.cons rfl v174 (.cons rfl v79 .nil)) .e .e)) (.o (.o (.s (.cons rfl v73 .nil) .e .e) .e) .e)) (.o .e (.s (.cons rfl v94 (.cons rfl v45 .nil)) .e .e))) (.o .e (.o .e (.o (.s (.cons rfl v162 (.cons rfl v63 .nil)) .e .e) .e)))) (.o .e (.s (.cons rfl v123 (.cons rfl v1 .nil)) (.o .e (.o .e (.s (.cons rfl v163 (.cons rfl v64 .nil)) .e .e))) (.o (.o (.o (.s (.cons rfl v166 (.cons rfl v67 .nil)) .e .e) .e) .e) (.o .e (.s (.cons rfl v176 (.cons rfl v175 .nil)) .e .e))))))))
theorem cok3 : COk E (orcM tab mem3 400) := orcM_ok envOk tabOk memOk3 400
theorem c7 : chkM (orcM tab mem3 400) m7 = true := by kernel_rfl
theorem v7 : Valid E m7 := valid_of cok3 c7
theorem c8 : chkM (orcM tab mem3 400) m8 = true := by kernel_rfl
theorem v8 : Valid E m8 := valid_of cok3 c8
theorem c9 : chkM (orcM tab mem3 400) m9 = true := by kernel_rfl
theorem v9 : Valid E m9 := valid_of cok3 c9
theorem c13 : chkM (orcM tab mem3 400) m13 = true := by kernel_rfl
theorem v13 : Valid E m13 := valid_of cok3 c13
theorem c23 : chkM (orcM tab mem3 400) m23 = true := by kernel_rfl
theorem v23 : Valid E m23 := valid_of cok3 c23
theorem c24 : chkM (orcM tab mem3 400) m24 = true := by kernel_rfl
theorem v24 : Valid E m24 := valid_of cok3 c24
theorem c25 : chkM (orcM tab mem3 400) m25 = true := by kernel_rfl
theorem v25 : Valid E m25 := valid_of cok3 c25
theorem c29 : chkM (orcM tab mem3 400) m29 = true := by kernel_rfl
theorem v29 : Valid E m29 := valid_of cok3 c29
theorem c36 : chkM (orcM tab mem3 400) m36 = true := by kernel_rfl
theorem v36 : Valid E m36 := valid_of cok3 c36
theorem c37 : chkM (orcM tab mem3 400) m37 = true := by kernel_rfl
theorem v37 : Valid E m37 := valid_of cok3 c37
theorem c38 : chkM (orcM tab mem3 400) m38 = true := by kernel_rfl
theorem v38 : Valid E m38 := valid_of cok3 c38
theorem c41 : chkM (orcM tab mem3 400) m41 = true := by kernel_rfl
theorem v41 : Valid E m41 := valid_of cok3 c41
theorem c43 : chkM (orcM tab mem3 400) m43 = true := by kernel_rfl
theorem v43 : Valid E m43 := valid_of cok3 c43
theorem c46 : chkM (orcM tab mem3 400) m46 = true := by kernel_rfl
theorem v46 : Valid E m46 := valid_of cok3 c46
theorem c76 : chkM (orcM tab mem3 400) m76 = true := by kernel_rfl
theorem v76 : Valid E m76 := valid_of cok3 c76
theorem c83 : chkM (orcM tab mem3 400) m83 = true := by kernel_rfl
theorem v83 : Valid E m83 := valid_of cok3 c83
theorem c85 : chkM (orcM tab mem3 400) m85 = true := by kernel_rfl
theorem v85 : Valid E m85 := valid_of cok3 c85
theorem c87 : chkM (orcM tab mem3 400) m87 = true := by kernel_rfl
theorem v87 : Valid E m87 := valid_of cok3 c87
theorem c89 : chkM (orcM tab mem3 400) m89 = true := by kernel_rfl
theorem v89 : Valid E m89 := valid_of cok3 c89
theorem c90 : chkM (orcM tab mem3 400) m90 = true := by kernel_rfl
theorem v90 : Valid E m90 := valid_of cok3 c90
theorem c92 : chkM (orcM tab mem3 400) m92 = true := by kernel_rfl
theorem v92 : Valid E m92 := valid_of cok3 c92
theorem c95 : chkM (orcM tab mem3 400) m95 = true := by kernel_rfl
theorem v95 : Valid E m95 := valid_of cok3 c95
theorem c97 : chkM (orcM tab mem3 400) m97 = true := by kernel_rfl
theorem v97 : Valid E m97 := valid_of cok3 c97
theorem c99 : chkM (orcM tab mem3 400) m99 = true := by kernel_rfl
theorem v99 : Valid E m99 := valid_of cok3 c99
theorem c102 : chkM (orcM tab mem3 400) m102 = true := by kernel_rfl
theorem v102 : Valid E m102 := valid_of cok3 c102
theorem c103 : chkM (orcM tab mem3 400) m103 = true := by kernel_rfl
theorem v103 : Valid E m103 := valid_of cok3 c103
theorem c104 : chkM (orcM tab mem3 400) m104 = true := by kernel_rfl
theorem v104 : Valid E m104 := valid_of cok3 c104
theorem c106 : chkM (orcM tab mem3 400) m106 = true := by kernel_rfl
theorem v106 : Valid E m106 := valid_of cok3 c106
theorem c110 : chkM (orcM tab mem3 400) m110 = true := by kernel_rfl
theorem v110 : Valid E m110 := valid_of cok3 c110
theorem c111 : chkM (orcM tab mem3 400) m111 = true := by kernel_rfl
theorem v111 : Valid E m111 := valid_of cok3 c111
theorem c112 : chkM (orcM tab mem3 400) m112 = true := by kernel_rfl
theorem v112 : Valid E m112 := valid_of cok3 c112
theorem c114 : chkM (orcM tab mem3 400) m114 = true := by kernel_rfl
theorem v114 : Valid E m114 := valid_of cok3 c114
theorem c117 : chkM (orcM tab mem3 400) m117 = true := by kernel_rfl
theorem v117 : Valid E m117 := valid_of cok3 c117
theorem c118 : chkM (orcM tab mem3 400) m118 = true := by kernel_rfl
theorem v118 : Valid E m118 := valid_of cok3 c118
theorem c119 : chkM (orcM tab mem3 400) m119 = true := by kernel_rfl
theorem v119 : Valid E m119 := valid_of cok3 c119
theorem c126 : chkM (orcM tab mem3 400) m126 = true := by kernel_rfl
theorem v126 : Valid E m126 := valid_of cok3 c126
theorem c127 : chkM (orcM tab mem3 400) m127 = true := by kernel_rfl
theorem v127 : Valid E m127 := valid_of cok3 c127
theorem c128 : chkM (orcM tab mem3 400) m128 = true := by kernel_rfl
theorem v128 : Valid E m128 := valid_of cok3 c128
theorem c131 : chkM (orcM tab mem3 400) m131 = true := by kernel_rfl
theorem v131 : Valid E m131 := valid_of cok3 c131
theorem c135 : chkM (orcM tab mem3 400) m135 = true := by kernel_rfl
theorem v135 : Valid E m135 := valid_of cok3 c135
theorem c136 : chkM (orcM tab mem3 400) m136 = true := by kernel_rfl
theorem v136 : Valid E m136 := valid_of cok3 c136
theorem c137 : chkM (orcM tab mem3 400) m137 = true := by kernel_rfl
theorem v137 : Valid E m137 := valid_of cok3 c137
theorem c140 : chkM (orcM tab mem3 400) m140 = true := by kernel_rfl
theorem v140 : Valid E m140 := valid_of cok3 c140
theorem c144 : chkM (orcM tab mem3 400) m144 = true := by kernel_rfl
theorem v144 : Valid E m144 := valid_of cok3 c144
theorem c145 : chkM (orcM tab mem3 400) m145 = true := by kernel_rfl
theorem v145 : Valid E m145 := valid_of cok3 c145
theorem c146 : chkM (orcM tab mem3 400) m146 = true := by kernel_rfl
theorem v146 : Valid E m146 := valid_of cok3 c146
theorem c149 : chkM (orcM tab mem3 400) m149 = true := by kernel_rfl
theorem v149 : Valid E m149 := valid_of cok3 c149
theorem c152 : chkM (orcM tab mem3 400) m152 = true := by kernel_rfl
theorem v152 : Valid E m152 := valid_of cok3 c152
theorem c153 : chkM (orcM tab mem3 400) m153 = true := by kernel_rfl
theorem v153 : Valid E m153 := valid_of cok3 c153
theorem c155 : chkM (orcM tab mem3 400) m155 = true := by kernel_rfl
theorem v155 : Valid E m155 := valid_of cok3 c155
theorem c157 : chkM (orcM tab mem3 400) m157 = true := by kernel_rfl
theorem v157 : Valid E m157 := valid_of cok3 c157
theorem c158 : chkM (orcM tab mem3 400) m158 = true := by kernel_rfl
theorem v158 : Valid E m158 := valid_of cok3 c158
theorem c160 : chkM (orcM tab mem3 400) m160 = true := by kernel_rfl
theorem v160 : Valid E m160 := valid_of cok3 c160
theorem c161 : chkM (orcM tab mem3 400) m161 = true := by kernel_rfl
theorem v161 : Valid E m161 := valid_of cok3 c161
theorem c172 : chkM (orcM tab mem3 400) m172 = true := by kernel_rfl
theorem v172 : Valid E m172 := valid_of cok3 c172
theorem c179 : chkM (orcM tab mem3 400) m179 = true := by kernel_rfl
theorem v179 : Valid E m179 := valid_of cok3 c179
theorem c181 : chkM (orcM tab mem3 400) m181 = true := by kernel_rfl
theorem v181 : Valid E m181 := valid_of cok3 c181
theorem c183 : chkM (orcM tab mem3 400) m183 = true := by kernel_rfl
theorem v183 : Valid E m183 := valid_of cok3 c183
theorem c185 : chkM (orcM tab mem3 400) m185 = true := by kernel_rfl
theorem v185 : Valid E m185 := valid_of cok3 c185
theorem c187 : chkM (orcM tab mem3 400) m187 = true := by kernel_rfl
theorem v187 : Valid E m187 := valid_of cok3 c187
theorem c188 : chkM (orcM tab mem3 400) m188 = true := by kernel_rfl
theorem v188 : Valid E m188 := valid_of cok3 c188
theorem c189 : chkM (orcM tab mem3 400) m189 = true := by kernel_rfl
theorem v189 : Valid E m189 := valid_of cok3 c189
theorem c192 : chkM (orcM tab mem3 400) m192 = true := by kernel_rfl
theorem v192 : Valid E m192 := valid_of cok3 c192
theorem c195 : chkM (orcM tab mem3 400) m195 = true := by kernel_rfl
theorem v195 : Valid E m195 := valid_of cok3 c195
theorem c196 : chkM (orcM tab mem3 400) m196 = true := by kernel_rfl
theorem v196 : Valid E m196 := valid_of cok3 c196
theorem c197 : chkM (orcM tab mem3 400) m197 = true := by kernel_rfl
theorem v197 : Valid E m197 := valid_of cok3 c197
theorem c200 : chkM (orcM tab mem3 400) m200 = true := by kernel_rfl
theorem v200 : Valid E m200 := valid_of cok3 c200
theorem c204 : chkM (orcM tab mem3 400) m204 = true := by kernel_rfl
theorem v204 : Valid E m204 := valid_of cok3 c204
theorem c205 : chkM (orcM tab mem3 400) m205 = true := by kernel_rfl
theorem v205 : Valid E m205 := valid_of cok3 c205
theorem c206 : chkM (orcM tab mem3 400) m206 = true := by kernel_rfl
theorem v206 : Valid E m206 := valid_of cok3 c206
end VE
