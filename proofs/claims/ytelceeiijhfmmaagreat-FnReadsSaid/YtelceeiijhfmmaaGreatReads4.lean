import Derived.Test.YtelceeiijhfmmaaGreatReads3
import Derived.IntWalk
/- For every input the law FnReads of the given program returns true and leaves its argument as it was. -/
set_option linter.unusedVariables false
set_option maxRecDepth 100000
namespace Go.Proofs.Fw.R1
open Go Go.Proofs Go.Proofs.Fw
def h60 : List Hint := [⟨5, [128388, 128387, 128386, 128385, 128384, 128192, 64, 128, 512], [tI, tI, tI, tI, tI, (.sl (.sl (.st .key))), tI, tI, tI], [⟨128388, .val, none⟩, ⟨128387, .val, none⟩, ⟨128386, .val, none⟩, ⟨128385, .val, none⟩, ⟨128384, .val, none⟩, ⟨128192, .rd, none⟩, ⟨384384, .dead, (some (.bx 5))⟩, ⟨384, (.ptr 6 0), (some (.one .leaf))⟩, ⟨384192, .dead, (some (.bx 1))⟩, ⟨192, (.ptr 3 0), (some (.one .leaf))⟩, ⟨64, .val, (some (.one .leaf))⟩, ⟨128, .val, (some (.one .leaf))⟩, ⟨512, .val, (some (.one .leaf))⟩]⟩]
theorem G60 : ∀ K x, denF K Tryz.prog (tab K) (ents.take 60) h60 ⟨231, [.v (.agg 1) [.rd], .v .leaf [.val], .v .leaf [.val]], (.tup [(.agg 5), .leaf]), [.val, .val, .val, .val, .val, .val]⟩ [(.sl (.sl (.st .key))), tI, tI] [tI, tI, tI, tI, tI, tB] x = spec_NodeAt K x.1 x.2.1 x.2.2.1 := fun K x => by kernel_rfl
def h61 : List Hint := []
theorem G61 : ∀ K x, denF K Tryz.prog (tab K) (ents.take 61) h61 ⟨216, [.v (.agg 2) [.rd, .rd], .v .leaf [.val], .v .leaf [.val]], (.tup [(.agg 5), .leaf]), [.val, .val, .val, .val, .val, .val]⟩ [(.sl tI), (.sl (.st .node)), tI, tI] [tI, tI, tI, tI, tI, tB] x = spec_TreeAt K x.1 x.2.1 x.2.2.1 x.2.2.2.1 := fun K x => by kernel_rfl
def h62 : List Hint := []
theorem G62 : ∀ K x, denF K Tryz.prog (tab K) (ents.take 62) h62 ⟨147, [.v .leaf [.rd]], (.one (.agg 1)), [.own]⟩ [(.sl (.st .key))] [(.sl (.sl (.st .key)))] x = spec_NodeNew K x.1 := fun K x => by kernel_rfl
def h63 : List Hint := [⟨18, [128384, 128196, 128195, 128194, 128193, 128192, 128128, 128256], [(.sl (.sl (.st .key))), tI, tI, tI, tI, tI, (.sl (.sl (.st .key))), (.sl (.sl (.st .key)))], [⟨128384, .own, none⟩, ⟨128196, .val, none⟩, ⟨128195, .val, none⟩, ⟨128194, .val, none⟩, ⟨128193, .val, none⟩, ⟨128192, .val, none⟩, ⟨128128, .rd, none⟩, ⟨128256, .own, none⟩, ⟨384384, .dead, (some (.bx 1))⟩, ⟨384, (.ptr 6 0), (some (.one .leaf))⟩, ⟨384192, .dead, (some (.bx 5))⟩, ⟨192, (.ptr 3 0), (some (.one .leaf))⟩, ⟨384128, .dead, (some (.bx 1))⟩, ⟨128, (.ptr 2 0), (some (.one .leaf))⟩, ⟨384256, .dead, (some (.bx 1))⟩, ⟨256, (.ptr 4 0), (some (.one .leaf))⟩]⟩, ⟨12, [128384, 128196, 128195, 128194, 128193, 128192, 128128, 128256, 512, 448], [(.sl (.sl (.st .key))), tI, tI, tI, tI, tI, (.sl (.sl (.st .key))), (.sl (.sl (.st .key))), tB, tI], [⟨128384, .own, none⟩, ⟨128196, .val, none⟩, ⟨128195, .val, none⟩, ⟨128194, .val, none⟩, ⟨128193, .val, none⟩, ⟨128192, .val, none⟩, ⟨128128, .rd, none⟩, ⟨128256, .own, none⟩, ⟨512, .val, (some (.one .leaf))⟩, ⟨448, .val, (some (.one .leaf))⟩, ⟨384384, .dead, (some (.bx 1))⟩, ⟨384, (.ptr 6 0), (some (.one .leaf))⟩, ⟨384192, .dead, (some (.bx 5))⟩, ⟨192, (.ptr 3 0), (some (.one .leaf))⟩, ⟨384128, .dead, (some (.bx 1))⟩, ⟨128, (.ptr 2 0), (some (.one .leaf))⟩, ⟨384256, .dead, (some (.bx 1))⟩, ⟨256, (.ptr 4 0), (some (.one .leaf))⟩]⟩]
theorem G63 : ∀ K x, denF K Tryz.prog (tab K) (ents.take 63) h63 ⟨141, [.v (.agg 1) [.rd], .v (.agg 5) [.val, .val, .val, .val, .val]], (.tup [(.agg 1), .leaf]), [.own, .val]⟩ [(.sl (.sl (.st .key))), tI, tI, tI, tI, tI] [(.sl (.sl (.st .key))), tB] x = spec_NodePut K x.1 x.2.1 x.2.2.1 x.2.2.2.1 x.2.2.2.2.1 x.2.2.2.2.2.1 := fun K x => by kernel_rfl
def h64 : List Hint := []
theorem G64 : ∀ K x, denF K Tryz.prog (tab K) (ents.take 64) h64 ⟨142, [.v (.agg 2) [.rd, .rd], .v .leaf [.val], .v .leaf [.rd], .v .leaf [.rd]], (.one (.agg 2)), [.own, .own]⟩ [(.sl tI), (.sl (.st .node)), tI, (.sl tI), (.sl (.st .node))] [(.sl tI), (.sl (.st .node))] x = spec_l6Set K x.1 x.2.1 x.2.2.1 x.2.2.2.1 x.2.2.2.2.1 := fun K x => by kernel_rfl
def h65 : List Hint := [⟨5, [128065, 128064, 192], [(.sl (.st .node)), (.sl tI), tI], [⟨128065, .rd, none⟩, ⟨128064, .rd, none⟩, ⟨384064, .dead, (some (.bx 2))⟩, ⟨64, (.ptr 1 0), (some (.one .leaf))⟩, ⟨192, .val, (some (.one .leaf))⟩]⟩]
theorem G65 : ∀ K x, denF K Tryz.prog (tab K) (ents.take 65) h65 ⟨191, [.v (.agg 2) [.rd, .rd]], (.one .leaf), [.val]⟩ [(.sl tI), (.sl (.st .node))] [tI] x = spec_l6Pair K x.1 x.2.1 := fun K x => by kernel_rfl
def h66 : List Hint := [⟨5, [128129, 128128, 128065, 128064, 192], [(.sl (.st .node)), (.sl tI), (.sl (.st .node)), (.sl tI), tI], [⟨128129, .own, none⟩, ⟨128128, .own, none⟩, ⟨128065, .own, none⟩, ⟨128064, .own, none⟩, ⟨384128, .dead, (some (.bx 2))⟩, ⟨128, (.ptr 2 0), (some (.one .leaf))⟩, ⟨384064, .dead, (some (.bx 2))⟩, ⟨64, (.ptr 1 0), (some (.one .leaf))⟩, ⟨192, .val, (some (.one .leaf))⟩]⟩]
theorem G66 : ∀ K x, denF K Tryz.prog (tab K) (ents.take 66) h66 ⟨148, [.v (.agg 2) [.own, .own]], (.one (.agg 2)), [.own, .own]⟩ [(.sl tI), (.sl (.st .node))] [(.sl tI), (.sl (.st .node))] x = spec_l6Join_o K x.1 x.2.1 := fun K x => by kernel_rfl
def h67 : List Hint := [⟨26, [128385, 128384, 128641, 128640, 128257, 128256], [(.sl (.st .node)), (.sl tI), (.sl (.st .node)), (.sl tI), (.sl (.st .node)), (.sl tI)], [⟨128385, .own, none⟩, ⟨128384, .own, none⟩, ⟨128641, .own, none⟩, ⟨128640, .own, none⟩, ⟨128257, .own, none⟩, ⟨128256, .own, none⟩, ⟨384384, .dead, (some (.bx 2))⟩, ⟨384, (.ptr 6 0), (some (.one .leaf))⟩, ⟨384640, .dead, (some (.bx 2))⟩, ⟨640, (.ptr 10 0), (some (.one .leaf))⟩, ⟨384256, .dead, (some (.bx 2))⟩, ⟨256, (.ptr 4 0), (some (.one .leaf))⟩]⟩]
theorem G67 : ∀ K x, denF K Tryz.prog (tab K) (ents.take 67) h67 ⟨85, [.v (.agg 2) [.rd, .rd], .v (.agg 5) [.val, .val, .val, .val, .val]], (.tup [(.agg 2), .leaf]), [.own, .own, .val]⟩ [(.sl tI), (.sl (.st .node)), tI, tI, tI, tI, tI] [(.sl tI), (.sl (.st .node)), tB] x = spec_TreePut K x.1 x.2.1 x.2.2.1 x.2.2.2.1 x.2.2.2.2.1 x.2.2.2.2.2.1 x.2.2.2.2.2.2.1 := fun K x => by kernel_rfl
def h68 : List Hint := [⟨8, [320], [(.sl (.st .cell))], [⟨320, .own, (some (.one .leaf))⟩]⟩]
theorem G68 : ∀ K x, denF K Tryz.prog (tab K) (ents.take 68) h68 ⟨86, [.v .leaf [.rd], .v .leaf [.val]], (.one .leaf), [.own]⟩ [(.sl (.st .cell)), tI] [(.sl (.st .cell))] x = spec_FreeCell K x.1 x.2.1 := fun K x => by kernel_rfl
def h69 : List Hint := []
theorem G69 : ∀ K x, denF K Tryz.prog (tab K) (ents.take 69) h69 ⟨217, [.p [.rd, .rd, .rd, .own, .rd, .val] [.same, .same, .same, .own, .same, .same], .v (.agg 5) [.val, .val, .val, .val, .val], .v .leaf [.val]], (.tup []), []⟩ [(.sl tI), (.sl (.st .node)), (.sl (.st .age)), (.sl (.st .cell)), (.sl (.st .vol)), tI, tI, tI, tI, tI, tI, tB] [(.sl (.st .cell))] x = spec_l11Drop K x.1 x.2.1 x.2.2.1 x.2.2.2.1 x.2.2.2.2.1 x.2.2.2.2.2.1 x.2.2.2.2.2.2.1 x.2.2.2.2.2.2.2.1 x.2.2.2.2.2.2.2.2.1 x.2.2.2.2.2.2.2.2.2.1 x.2.2.2.2.2.2.2.2.2.2.1 x.2.2.2.2.2.2.2.2.2.2.2.1 := fun K x => by kernel_rfl
def h70 : List Hint := []
theorem G70 : ∀ K x, denF K Tryz.prog (tab K) (ents.take 70) h70 ⟨202, [.p [.own, .own, .rd, .own, .rd, .val] [.own, .own, .same, .own, .same, .same], .v (.agg 5) [.val, .val, .val, .val, .val]], (.one .leaf), [.val]⟩ [(.sl tI), (.sl (.st .node)), (.sl (.st .age)), (.sl (.st .cell)), (.sl (.st .vol)), tI, tI, tI, tI, tI, tI] [tB, (.sl tI), (.sl (.st .node)), (.sl (.st .cell))] x = spec_l11Put K x.1 x.2.1 x.2.2.1 x.2.2.2.1 x.2.2.2.2.1 x.2.2.2.2.2.1 x.2.2.2.2.2.2.1 x.2.2.2.2.2.2.2.1 x.2.2.2.2.2.2.2.2.1 x.2.2.2.2.2.2.2.2.2.1 x.2.2.2.2.2.2.2.2.2.2.1 := fun K x => by kernel_rfl
def h71 : List Hint := [⟨10, [128261, 128260, 128259, 128258, 128257, 128256, 128645, 128644, 128643, 128642, 128641, 128640, 128517, 128516, 128515, 128514, 128513, 128512, 704, 192, 128, 64], [tI, (.sl (.st .vol)), (.sl (.st .cell)), (.sl (.st .age)), (.sl (.st .node)), (.sl tI), tI, (.sl (.st .vol)), (.sl (.st .cell)), (.sl (.st .age)), (.sl (.st .node)), (.sl tI), tI, (.sl (.st .vol)), (.sl (.st .cell)), (.sl (.st .age)), (.sl (.st .node)), (.sl tI), tI, tI, tI, tS], [⟨128261, .val, none⟩, ⟨128260, .rd, none⟩, ⟨128259, .rd, none⟩, ⟨128258, .rd, none⟩, ⟨128257, .rd, none⟩, ⟨128256, .rd, none⟩, ⟨128645, .val, none⟩, ⟨128644, .own, none⟩, ⟨128643, .own, none⟩, ⟨128642, .own, none⟩, ⟨128641, .own, none⟩, ⟨128640, .own, none⟩, ⟨128517, .val, none⟩, ⟨128516, .own, none⟩, ⟨128515, .own, none⟩, ⟨128514, .own, none⟩, ⟨128513, .own, none⟩, ⟨128512, .own, none⟩, ⟨704, .val, (some (.one .leaf))⟩, ⟨192, .val, (some (.one .leaf))⟩, ⟨128, .val, (some (.one .leaf))⟩, ⟨64, .val, (some (.one .leaf))⟩, ⟨384256, .dead, (some (.bx 6))⟩, ⟨256, (.ptr 4 0), (some (.one .leaf))⟩, ⟨384640, .dead, (some (.bx 6))⟩, ⟨640, (.ptr 10 0), (some (.one .leaf))⟩, ⟨384512, .dead, (some (.bx 6))⟩, ⟨512, (.ptr 8 0), (some (.one .leaf))⟩]⟩]
theorem G71 : ∀ K x, denF K Tryz.prog (tab K) (ents.take 71) h71 ⟨158, [.v (.agg 6) [.rd, .rd, .rd, .rd, .rd, .val], .v .leaf [.val], .v .leaf [.val], .v .leaf [.val]], (.tup [(.agg 6), .leaf]), [.own, .own, .own, .own, .own, .val, .val]⟩ [(.sl tI), (.sl (.st .node)), (.sl (.st .age)), (.sl (.st .cell)), (.sl (.st .vol)), tI, tS, tI, tI] [(.sl tI), (.sl (.st .node)), (.sl (.st .age)), (.sl (.st .cell)), (.sl (.st .vol)), tI, tI] x = spec_Write K x.1 x.2.1 x.2.2.1 x.2.2.2.1 x.2.2.2.2.1 x.2.2.2.2.2.1 x.2.2.2.2.2.2.1 x.2.2.2.2.2.2.2.1 x.2.2.2.2.2.2.2.2.1 := fun K x => by kernel_rfl
def h72 : List Hint := [⟨7, [320, 0, 384], [(.sl tI), (.sl (.st .age)), tI], [⟨320, .own, (some (.one .leaf))⟩, ⟨0, .rd, (some (.one .leaf))⟩, ⟨384, .val, (some (.one .leaf))⟩]⟩]
theorem G72 : ∀ K x, denF K Tryz.prog (tab K) (ents.take 72) h72 ⟨232, [.v .leaf [.rd], .v .leaf [.val]], (.one .leaf), [.own]⟩ [(.sl (.st .age)), tI] [(.sl tI)] x = spec_PathOf K x.1 x.2.1 := fun K x => by kernel_rfl
def h73 : List Hint := [⟨10, [448, 320, 64, 384], [tI, (.sl (.st .key)), tI, (.sl (.st .key))], [⟨448, .val, (some (.one .leaf))⟩, ⟨320, .own, (some (.one .leaf))⟩, ⟨64, .val, (some (.one .leaf))⟩, ⟨384, .own, (some (.one .leaf))⟩]⟩, ⟨9, [320, 64, 384, 448], [(.sl (.st .key)), tI, (.sl (.st .key)), tI], [⟨320, .own, (some (.one .leaf))⟩, ⟨64, .val, (some (.one .leaf))⟩, ⟨384, .own, (some (.one .leaf))⟩, ⟨448, .val, (some (.one .leaf))⟩]⟩]
theorem G73 : ∀ K x, denF K Tryz.prog (tab K) (ents.take 73) h73 ⟨239, [.v (.agg 2) [.rd, .rd], .v .leaf [.val]], (.one .leaf), [.own]⟩ [(.sl tI), (.sl (.st .node)), tI] [(.sl (.st .key))] x = spec_KeysOf K x.1 x.2.1 x.2.2.1 := fun K x => by kernel_rfl
def h74 : List Hint := [⟨5, [0, 64, 320], [(.sl tI), tI, tI], [⟨0, .rd, (some (.one .leaf))⟩, ⟨64, .val, (some (.one .leaf))⟩, ⟨320, .val, (some (.one .leaf))⟩]⟩]
theorem G74 : ∀ K x, denF K Tryz.prog (tab K) (ents.take 74) h74 ⟨240, [.v .leaf [.rd], .v .leaf [.val]], (.one .leaf), [.val]⟩ [(.sl tI), tI] [tB] x = spec_l7Has K x.1 x.2.1 := fun K x => by kernel_rfl
def h75 : List Hint := [⟨12, [128388, 128387, 128386, 128385, 128384, 128516, 128515, 128514, 128513, 128512, 704, 576, 128, 640], [tI, tI, tI, tI, tI, tI, tI, tI, tI, tI, tI, tB, (.sl tI), (.sl (.st .key))], [⟨128388, .val, none⟩, ⟨128387, .val, none⟩, ⟨128386, .val, none⟩, ⟨128385, .val, none⟩, ⟨128384, .val, none⟩, ⟨128516, .val, none⟩, ⟨128515, .val, none⟩, ⟨128514, .val, none⟩, ⟨128513, .val, none⟩, ⟨128512, .val, none⟩, ⟨704, .val, (some (.one .leaf))⟩, ⟨384384, .dead, (some (.bx 5))⟩, ⟨384, (.ptr 6 0), (some (.one .leaf))⟩, ⟨576, .val, (some (.one .leaf))⟩, ⟨384512, .dead, (some (.bx 5))⟩, ⟨512, (.ptr 8 0), (some (.one .leaf))⟩, ⟨128, .rd, (some (.one .leaf))⟩, ⟨640, .own, (some (.one .leaf))⟩]⟩, ⟨11, [128388, 128387, 128386, 128385, 128384, 128516, 128515, 128514, 128513, 128512, 576, 128, 640, 704], [tI, tI, tI, tI, tI, tI, tI, tI, tI, tI, tB, (.sl tI), (.sl (.st .key)), tI], [⟨128388, .val, none⟩, ⟨128387, .val, none⟩, ⟨128386, .val, none⟩, ⟨128385, .val, none⟩, ⟨128384, .val, none⟩, ⟨128516, .val, none⟩, ⟨128515, .val, none⟩, ⟨128514, .val, none⟩, ⟨128513, .val, none⟩, ⟨128512, .val, none⟩, ⟨384384, .dead, (some (.bx 5))⟩, ⟨384, (.ptr 6 0), (some (.one .leaf))⟩, ⟨576, .val, (some (.one .leaf))⟩, ⟨384512, .dead, (some (.bx 5))⟩, ⟨512, (.ptr 8 0), (some (.one .leaf))⟩, ⟨128, .rd, (some (.one .leaf))⟩, ⟨640, .own, (some (.one .leaf))⟩, ⟨704, .val, (some (.one .leaf))⟩]⟩]
theorem G75 : ∀ K x, denF K Tryz.prog (tab K) (ents.take 75) h75 ⟨233, [.v (.agg 2) [.rd, .rd], .v .leaf [.val], .v .leaf [.rd]], (.tup [(.agg 5), .leaf]), [.val, .val, .val, .val, .val, .val]⟩ [(.sl tI), (.sl (.st .node)), tI, (.sl tI)] [tI, tI, tI, tI, tI, tB] x = spec_l8Near K x.1 x.2.1 x.2.2.1 x.2.2.2.1 := fun K x => by kernel_rfl
def h76 : List Hint := []
theorem G76 : ∀ K x, denF K Tryz.prog (tab K) (ents.take 76) h76 ⟨218, [.v (.agg 2) [.rd, .rd], .v .leaf [.rd], .v .leaf [.val], .v .leaf [.val]], (.tup [(.agg 5), .leaf]), [.val, .val, .val, .val, .val, .val]⟩ [(.sl tI), (.sl (.st .node)), (.sl (.st .age)), tI, tI] [tI, tI, tI, tI, tI, tB] x = spec_SeenAbove K x.1 x.2.1 x.2.2.1 x.2.2.2.1 x.2.2.2.2.1 := fun K x => by kernel_rfl
def h77 : List Hint := []
theorem G77 : ∀ K x, denF K Tryz.prog (tab K) (ents.take 77) h77 ⟨203, [.p [.own, .own, .rd, .own, .rd, .val] [.own, .own, .same, .own, .same, .same], .v .leaf [.val], .v .leaf [.val]], (.one .leaf), [.val]⟩ [(.sl tI), (.sl (.st .node)), (.sl (.st .age)), (.sl (.st .cell)), (.sl (.st .vol)), tI, tI, tI] [tB, (.sl tI), (.sl (.st .node)), (.sl (.st .cell))] x = spec_l11Discard K x.1 x.2.1 x.2.2.1 x.2.2.2.1 x.2.2.2.2.1 x.2.2.2.2.2.1 x.2.2.2.2.2.2.1 x.2.2.2.2.2.2.2.1 := fun K x => by kernel_rfl
def h78 : List Hint := []
theorem G78 : ∀ K x, denF K Tryz.prog (tab K) (ents.take 78) h78 ⟨159, [.v (.agg 6) [.rd, .rd, .rd, .rd, .rd, .val], .v .leaf [.val], .v .leaf [.val]], (.tup [(.agg 6), .leaf]), [.own, .own, .own, .own, .own, .val, .val]⟩ [(.sl tI), (.sl (.st .node)), (.sl (.st .age)), (.sl (.st .cell)), (.sl (.st .vol)), tI, tS, tI] [(.sl tI), (.sl (.st .node)), (.sl (.st .age)), (.sl (.st .cell)), (.sl (.st .vol)), tI, tI] x = spec_Discard K x.1 x.2.1 x.2.2.1 x.2.2.2.1 x.2.2.2.2.1 x.2.2.2.2.2.1 x.2.2.2.2.2.2.1 x.2.2.2.2.2.2.2.1 := fun K x => by kernel_rfl
def h79 : List Hint := [⟨21, [128389, 128388, 128387, 128386, 128385, 128384, 128517, 128516, 128515, 128514, 128513, 128512, 128197, 128196, 128195, 128194, 128193, 128192, 704, 128, 640, 768], [tI, (.sl (.st .vol)), (.sl (.st .cell)), (.sl (.st .age)), (.sl (.st .node)), (.sl tI), tI, (.sl (.st .vol)), (.sl (.st .cell)), (.sl (.st .age)), (.sl (.st .node)), (.sl tI), tI, (.sl (.st .vol)), (.sl (.st .cell)), (.sl (.st .age)), (.sl (.st .node)), (.sl tI), tB, tI, tI, tI], [⟨128389, .val, none⟩, ⟨128388, .own, none⟩, ⟨128387, .own, none⟩, ⟨128386, .own, none⟩, ⟨128385, .own, none⟩, ⟨128384, .own, none⟩, ⟨128517, .val, none⟩, ⟨128516, .own, none⟩, ⟨128515, .own, none⟩, ⟨128514, .own, none⟩, ⟨128513, .own, none⟩, ⟨128512, .own, none⟩, ⟨128197, .val, none⟩, ⟨128196, .rd, none⟩, ⟨128195, .rd, none⟩, ⟨128194, .rd, none⟩, ⟨128193, .rd, none⟩, ⟨128192, .rd, none⟩, ⟨384384, .dead, (some (.bx 6))⟩, ⟨384, (.ptr 6 0), (some (.one .leaf))⟩, ⟨704, .val, (some (.one .leaf))⟩, ⟨384512, .dead, (some (.bx 6))⟩, ⟨512, (.ptr 8 0), (some (.one .leaf))⟩, ⟨384192, .dead, (some (.bx 6))⟩, ⟨192, (.ptr 3 0), (some (.one .leaf))⟩, ⟨128, .val, (some (.one .leaf))⟩, ⟨640, .val, (some (.one .leaf))⟩, ⟨768, .val, (some (.one .leaf))⟩]⟩, ⟨10, [128389, 128388, 128387, 128386, 128385, 128384, 128517, 128516, 128515, 128514, 128513, 128512, 128197, 128196, 128195, 128194, 128193, 128192, 576, 64, 128], [tI, (.sl (.st .vol)), (.sl (.st .cell)), (.sl (.st .age)), (.sl (.st .node)), (.sl tI), tI, (.sl (.st .vol)), (.sl (.st .cell)), (.sl (.st .age)), (.sl (.st .node)), (.sl tI), tI, (.sl (.st .vol)), (.sl (.st .cell)), (.sl (.st .age)), (.sl (.st .node)), (.sl tI), tI, tS, tI], [⟨128389, .val, none⟩, ⟨128388, .own, none⟩, ⟨128387, .own, none⟩, ⟨128386, .own, none⟩, ⟨128385, .own, none⟩, ⟨128384, .own, none⟩, ⟨128517, .val, none⟩, ⟨128516, .own, none⟩, ⟨128515, .own, none⟩, ⟨128514, .own, none⟩, ⟨128513, .own, none⟩, ⟨128512, .own, none⟩, ⟨128197, .val, none⟩, ⟨128196, .rd, none⟩, ⟨128195, .rd, none⟩, ⟨128194, .rd, none⟩, ⟨128193, .rd, none⟩, ⟨128192, .rd, none⟩, ⟨576, .val, (some (.one .leaf))⟩, ⟨64, .val, (some (.one .leaf))⟩, ⟨384384, .dead, (some (.bx 6))⟩, ⟨384, (.ptr 6 0), (some (.one .leaf))⟩, ⟨384512, .dead, (some (.bx 6))⟩, ⟨512, (.ptr 8 0), (some (.one .leaf))⟩, ⟨384192, .dead, (some (.bx 6))⟩, ⟨192, (.ptr 3 0), (some (.one .leaf))⟩, ⟨128, .val, (some (.one .leaf))⟩]⟩]
theorem G79 : ∀ K x, denF K Tryz.prog (tab K) (ents.take 79) h79 ⟨160, [.v (.agg 6) [.rd, .rd, .rd, .rd, .rd, .val], .v .leaf [.val], .v .leaf [.val]], (.tup [(.agg 6), .leaf]), [.own, .own, .own, .own, .own, .val, .val]⟩ [(.sl tI), (.sl (.st .node)), (.sl (.st .age)), (.sl (.st .cell)), (.sl (.st .vol)), tI, tS, tI] [(.sl tI), (.sl (.st .node)), (.sl (.st .age)), (.sl (.st .cell)), (.sl (.st .vol)), tI, tI] x = spec_Resize K x.1 x.2.1 x.2.2.1 x.2.2.2.1 x.2.2.2.2.1 x.2.2.2.2.2.1 x.2.2.2.2.2.2.1 x.2.2.2.2.2.2.2.1 := fun K x => by kernel_rfl
def h80 : List Hint := []
theorem G80 : ∀ K x, denF K Tryz.prog (tab K) (ents.take 80) h80 ⟨244, [.v (.agg 2) [.rd, .rd], .v .leaf [.rd], .v .leaf [.val], .v .leaf [.val]], (.tup [(.agg 5), .leaf]), [.val, .val, .val, .val, .val, .val]⟩ [(.sl tI), (.sl (.st .node)), (.sl (.st .age)), tI, tI] [tI, tI, tI, tI, tI, tB] x = spec_Seen K x.1 x.2.1 x.2.2.1 x.2.2.2.1 x.2.2.2.2.1 := fun K x => by kernel_rfl
def h81 : List Hint := []
theorem G81 : ∀ K x, denF K Tryz.prog (tab K) (ents.take 81) h81 ⟨243, [.v (.agg 2) [.rd, .rd], .v .leaf [.rd], .v (.agg 5) [.val, .val, .val, .val, .val], .v .leaf [.val]], (.one .leaf), [.val]⟩ [(.sl tI), (.sl (.st .node)), (.sl (.st .age)), tI, tI, tI, tI, tI, tI] [tB] x = spec_Sees K x.1 x.2.1 x.2.2.1 x.2.2.2.1 x.2.2.2.2.1 x.2.2.2.2.2.1 x.2.2.2.2.2.2.1 x.2.2.2.2.2.2.2.1 x.2.2.2.2.2.2.2.2.1 := fun K x => by kernel_rfl
def h82 : List Hint := [⟨5, [128196, 128195, 128194, 128193, 128192, 128133, 128132, 128131, 128130, 128129, 128128, 320], [tI, tI, tI, tI, tI, tI, (.sl (.st .vol)), (.sl (.st .cell)), (.sl (.st .age)), (.sl (.st .node)), (.sl tI), tI], [⟨128196, .val, none⟩, ⟨128195, .val, none⟩, ⟨128194, .val, none⟩, ⟨128193, .val, none⟩, ⟨128192, .val, none⟩, ⟨128133, .val, none⟩, ⟨128132, .rd, none⟩, ⟨128131, .rd, none⟩, ⟨128130, .rd, none⟩, ⟨128129, .rd, none⟩, ⟨128128, .rd, none⟩, ⟨384192, .dead, (some (.bx 5))⟩, ⟨192, (.ptr 3 0), (some (.one .leaf))⟩, ⟨384128, .dead, (some (.bx 6))⟩, ⟨128, (.ptr 2 0), (some (.one .leaf))⟩, ⟨320, .val, (some (.one .leaf))⟩]⟩]
theorem G82 : ∀ K x, denF K Tryz.prog (tab K) (ents.take 82) h82 ⟨241, [.v (.agg 6) [.rd, .rd, .rd, .rd, .rd, .val], .v (.agg 5) [.val, .val, .val, .val, .val]], (.one .leaf), [.val]⟩ [(.sl tI), (.sl (.st .node)), (.sl (.st .age)), (.sl (.st .cell)), (.sl (.st .vol)), tI, tI, tI, tI, tI, tI] [tB] x = spec_SeenByAny K x.1 x.2.1 x.2.2.1 x.2.2.2.1 x.2.2.2.2.1 x.2.2.2.2.2.1 x.2.2.2.2.2.2.1 x.2.2.2.2.2.2.2.1 x.2.2.2.2.2.2.2.2.1 x.2.2.2.2.2.2.2.2.2.1 x.2.2.2.2.2.2.2.2.2.2.1 := fun K x => by kernel_rfl
def h83 : List Hint := [⟨5, [128133, 128132, 128131, 128130, 128129, 128128, 64, 320], [tI, (.sl (.st .vol)), (.sl (.st .cell)), (.sl (.st .age)), (.sl (.st .node)), (.sl tI), tI, tI], [⟨128133, .val, none⟩, ⟨128132, .rd, none⟩, ⟨128131, .rd, none⟩, ⟨128130, .rd, none⟩, ⟨128129, .rd, none⟩, ⟨128128, .rd, none⟩, ⟨384128, .dead, (some (.bx 6))⟩, ⟨128, (.ptr 2 0), (some (.one .leaf))⟩, ⟨64, .val, (some (.one .leaf))⟩, ⟨320, .val, (some (.one .leaf))⟩]⟩]
theorem G83 : ∀ K x, denF K Tryz.prog (tab K) (ents.take 83) h83 ⟨236, [.v (.agg 6) [.rd, .rd, .rd, .rd, .rd, .val], .v .leaf [.val]], (.one .leaf), [.val]⟩ [(.sl tI), (.sl (.st .node)), (.sl (.st .age)), (.sl (.st .cell)), (.sl (.st .vol)), tI, tI] [tB] x = spec_Idle K x.1 x.2.1 x.2.2.1 x.2.2.2.1 x.2.2.2.2.1 x.2.2.2.2.2.1 x.2.2.2.2.2.2.1 := fun K x => by kernel_rfl
def h84 : List Hint := []
theorem G84 : ∀ K x, denF K Tryz.prog (tab K) (ents.take 84) h84 ⟨221, [.v (.agg 6) [.rd, .rd, .rd, .rd, .rd, .val], .v .leaf [.val]], (.one .leaf), [.val]⟩ [(.sl tI), (.sl (.st .node)), (.sl (.st .age)), (.sl (.st .cell)), (.sl (.st .vol)), tI, tI] [tI] x = spec_l13Kid K x.1 x.2.1 x.2.2.1 x.2.2.2.1 x.2.2.2.2.1 x.2.2.2.2.2.1 x.2.2.2.2.2.2.1 := fun K x => by kernel_rfl
def h85 : List Hint := []
theorem G85 : ∀ K x, denF K Tryz.prog (tab K) (ents.take 85) h85 ⟨242, [.v (.agg 6) [.rd, .rd, .rd, .rd, .rd, .val], .v (.agg 5) [.val, .val, .val, .val, .val]], (.one .leaf), [.val]⟩ [(.sl tI), (.sl (.st .node)), (.sl (.st .age)), (.sl (.st .cell)), (.sl (.st .vol)), tI, tI, tI, tI, tI, tI] [tB] x = spec_l13Move K x.1 x.2.1 x.2.2.1 x.2.2.2.1 x.2.2.2.2.1 x.2.2.2.2.2.1 x.2.2.2.2.2.2.1 x.2.2.2.2.2.2.2.1 x.2.2.2.2.2.2.2.2.1 x.2.2.2.2.2.2.2.2.2.1 x.2.2.2.2.2.2.2.2.2.2.1 := fun K x => by kernel_rfl
def h86 : List Hint := []
theorem G86 : ∀ K x, denF K Tryz.prog (tab K) (ents.take 86) h86 ⟨234, [.v (.agg 6) [.rd, .rd, .rd, .rd, .rd, .val], .v .leaf [.val], .v (.agg 5) [.val, .val, .val, .val, .val]], (.one .leaf), [.val]⟩ [(.sl tI), (.sl (.st .node)), (.sl (.st .age)), (.sl (.st .cell)), (.sl (.st .vol)), tI, tI, tI, tI, tI, tI, tI] [tB] x = spec_l13Key K x.1 x.2.1 x.2.2.1 x.2.2.2.1 x.2.2.2.2.1 x.2.2.2.2.2.1 x.2.2.2.2.2.2.1 x.2.2.2.2.2.2.2.1 x.2.2.2.2.2.2.2.2.1 x.2.2.2.2.2.2.2.2.2.1 x.2.2.2.2.2.2.2.2.2.2.1 x.2.2.2.2.2.2.2.2.2.2.2.1 := fun K x => by kernel_rfl
def h87 : List Hint := [⟨7, [128133, 128132, 128131, 128130, 128129, 128128, 64, 320, 384], [tI, (.sl (.st .vol)), (.sl (.st .cell)), (.sl (.st .age)), (.sl (.st .node)), (.sl tI), tI, (.sl (.st .key)), tI], [⟨128133, .val, none⟩, ⟨128132, .rd, none⟩, ⟨128131, .rd, none⟩, ⟨128130, .rd, none⟩, ⟨128129, .rd, none⟩, ⟨128128, .rd, none⟩, ⟨64, .val, (some (.one .leaf))⟩, ⟨384128, .dead, (some (.bx 6))⟩, ⟨128, (.ptr 2 0), (some (.one .leaf))⟩, ⟨320, .own, (some (.one .leaf))⟩, ⟨384, .val, (some (.one .leaf))⟩]⟩]
theorem G87 : ∀ K x, denF K Tryz.prog (tab K) (ents.take 87) h87 ⟨235, [.v (.agg 6) [.rd, .rd, .rd, .rd, .rd, .val], .v .leaf [.val]], (.one .leaf), [.val]⟩ [(.sl tI), (.sl (.st .node)), (.sl (.st .age)), (.sl (.st .cell)), (.sl (.st .vol)), tI, tI] [tB] x = spec_l13Age K x.1 x.2.1 x.2.2.1 x.2.2.2.1 x.2.2.2.2.1 x.2.2.2.2.2.1 x.2.2.2.2.2.2.1 := fun K x => by kernel_rfl
def h88 : List Hint := [⟨27, [128069, 128068, 128067, 128066, 128065, 128064, 448], [tI, (.sl (.st .vol)), (.sl (.st .cell)), (.sl (.st .age)), (.sl (.st .node)), (.sl tI), tI], [⟨128069, .val, none⟩, ⟨128068, .rd, none⟩, ⟨128067, .rd, none⟩, ⟨128066, .rd, none⟩, ⟨128065, .rd, none⟩, ⟨128064, .rd, none⟩, ⟨384064, .dead, (some (.bx 6))⟩, ⟨64, (.ptr 1 0), (some (.one .leaf))⟩, ⟨448, .val, (some (.one .leaf))⟩]⟩, ⟨17, [128069, 128068, 128067, 128066, 128065, 128064, 256, 320, 384], [tI, (.sl (.st .vol)), (.sl (.st .cell)), (.sl (.st .age)), (.sl (.st .node)), (.sl tI), (.sl (.st .key)), tI, tI], [⟨128069, .val, none⟩, ⟨128068, .rd, none⟩, ⟨128067, .rd, none⟩, ⟨128066, .rd, none⟩, ⟨128065, .rd, none⟩, ⟨128064, .rd, none⟩, ⟨256, .own, (some (.one .leaf))⟩, ⟨384064, .dead, (some (.bx 6))⟩, ⟨64, (.ptr 1 0), (some (.one .leaf))⟩, ⟨320, .val, (some (.one .leaf))⟩, ⟨384, .val, (some (.one .leaf))⟩]⟩, ⟨11, [128069, 128068, 128067, 128066, 128065, 128064, 320, 256], [tI, (.sl (.st .vol)), (.sl (.st .cell)), (.sl (.st .age)), (.sl (.st .node)), (.sl tI), tI, (.sl (.st .key))], [⟨128069, .val, none⟩, ⟨128068, .rd, none⟩, ⟨128067, .rd, none⟩, ⟨128066, .rd, none⟩, ⟨128065, .rd, none⟩, ⟨128064, .rd, none⟩, ⟨384064, .dead, (some (.bx 6))⟩, ⟨64, (.ptr 1 0), (some (.one .leaf))⟩, ⟨320, .val, (some (.one .leaf))⟩, ⟨256, .own, (some (.one .leaf))⟩]⟩]
theorem G88 : ∀ K x, denF K Tryz.prog (tab K) (ents.take 88) h88 ⟨219, [.v (.agg 6) [.rd, .rd, .rd, .rd, .rd, .val]], (.tup [.leaf, .leaf]), [.val, .val]⟩ [(.sl tI), (.sl (.st .node)), (.sl (.st .age)), (.sl (.st .cell)), (.sl (.st .vol)), tI] [tI, tI] x = spec_NextStep K x.1 x.2.1 x.2.2.1 x.2.2.2.1 x.2.2.2.2.1 x.2.2.2.2.2.1 := fun K x => by kernel_rfl
def h89 : List Hint := []
theorem G89 : ∀ K x, denF K Tryz.prog (tab K) (ents.take 89) h89 ⟨220, [.p [.own, .own, .rd, .own, .rd, .val] [.own, .own, .same, .own, .same, .same], .v (.agg 5) [.val, .val, .val, .val, .val]], (.one .leaf), [.val]⟩ [(.sl tI), (.sl (.st .node)), (.sl (.st .age)), (.sl (.st .cell)), (.sl (.st .vol)), tI, tI, tI, tI, tI, tI] [tB, (.sl tI), (.sl (.st .node)), (.sl (.st .cell))] x = spec_l13None K x.1 x.2.1 x.2.2.1 x.2.2.2.1 x.2.2.2.2.1 x.2.2.2.2.2.1 x.2.2.2.2.2.2.1 x.2.2.2.2.2.2.2.1 x.2.2.2.2.2.2.2.2.1 x.2.2.2.2.2.2.2.2.2.1 x.2.2.2.2.2.2.2.2.2.2.1 := fun K x => by kernel_rfl
def h90 : List Hint := [⟨14, [512, 448, 64, 0, 384], [tI, (.sl (.st .age)), tI, (.sl (.st .age)), tI], [⟨512, .val, (some (.one .leaf))⟩, ⟨448, .own, (some (.one .leaf))⟩, ⟨64, .val, (some (.one .leaf))⟩, ⟨0, .rd, (some (.one .leaf))⟩, ⟨384, .val, (some (.one .leaf))⟩]⟩, ⟨22, [128577, 128576, 512, 448, 64, 0, 384], [tI, tI, tI, (.sl (.st .age)), tI, (.sl (.st .age)), tI], [⟨128577, .val, none⟩, ⟨128576, .val, none⟩, ⟨384576, .dead, (some (.bx 2))⟩, ⟨576, (.ptr 9 0), (some (.one .leaf))⟩, ⟨512, .val, (some (.one .leaf))⟩, ⟨448, .own, (some (.one .leaf))⟩, ⟨64, .val, (some (.one .leaf))⟩, ⟨0, .rd, (some (.one .leaf))⟩, ⟨384, .val, (some (.one .leaf))⟩]⟩, ⟨13, [448, 64, 0, 384, 512], [(.sl (.st .age)), tI, (.sl (.st .age)), tI, tI], [⟨448, .own, (some (.one .leaf))⟩, ⟨64, .val, (some (.one .leaf))⟩, ⟨0, .rd, (some (.one .leaf))⟩, ⟨384, .val, (some (.one .leaf))⟩, ⟨512, .val, (some (.one .leaf))⟩]⟩]
theorem G90 : ∀ K x, denF K Tryz.prog (tab K) (ents.take 90) h90 ⟨222, [.v .leaf [.rd], .v .leaf [.val]], (.tup [.leaf, .leaf]), [.own, .val]⟩ [(.sl (.st .age)), tI] [(.sl (.st .age)), tB] x = spec_CutAge K x.1 x.2.1 := fun K x => by kernel_rfl
def h91 : List Hint := [⟨36, [128069, 128068, 128067, 128066, 128065, 128064, 128261, 128260, 128259, 128258, 128257, 128256, 128133, 128132, 128131, 128130, 128129, 128128, 448], [tI, (.sl (.st .vol)), (.sl (.st .cell)), (.sl (.st .age)), (.sl (.st .node)), (.sl tI), tI, (.sl (.st .vol)), (.sl (.st .cell)), (.sl (.st .age)), (.sl (.st .node)), (.sl tI), tI, (.sl (.st .vol)), (.sl (.st .cell)), (.sl (.st .age)), (.sl (.st .node)), (.sl tI), tB], [⟨128069, .val, none⟩, ⟨128068, .rd, none⟩, ⟨128067, .rd, none⟩, ⟨128066, .rd, none⟩, ⟨128065, .rd, none⟩, ⟨128064, .rd, none⟩, ⟨128261, .val, none⟩, ⟨128260, .own, none⟩, ⟨128259, .own, none⟩, ⟨128258, .own, none⟩, ⟨128257, .own, none⟩, ⟨128256, .own, none⟩, ⟨128133, .val, none⟩, ⟨128132, .own, none⟩, ⟨128131, .own, none⟩, ⟨128130, .own, none⟩, ⟨128129, .own, none⟩, ⟨128128, .own, none⟩, ⟨448, .val, (some (.one .leaf))⟩, ⟨384064, .dead, (some (.bx 6))⟩, ⟨64, (.ptr 1 0), (some (.one .leaf))⟩, ⟨384256, .dead, (some (.bx 6))⟩, ⟨256, (.ptr 4 0), (some (.one .leaf))⟩, ⟨384128, .dead, (some (.bx 6))⟩, ⟨128, (.ptr 2 0), (some (.one .leaf))⟩]⟩, ⟨16, [128069, 128068, 128067, 128066, 128065, 128064, 128261, 128260, 128259, 128258, 128257, 128256, 128133, 128132, 128131, 128130, 128129, 128128, 1728, 512, 1664, 384, 448], [tI, (.sl (.st .vol)), (.sl (.st .cell)), (.sl (.st .age)), (.sl (.st .node)), (.sl tI), tI, (.sl (.st .vol)), (.sl (.st .cell)), (.sl (.st .age)), (.sl (.st .node)), (.sl tI), tI, (.sl (.st .vol)), (.sl (.st .cell)), (.sl (.st .age)), (.sl (.st .node)), (.sl tI), tB, (.sl (.st .key)), tI, tI, tB], [⟨128069, .val, none⟩, ⟨128068, .rd, none⟩, ⟨128067, .rd, none⟩, ⟨128066, .rd, none⟩, ⟨128065, .rd, none⟩, ⟨128064, .rd, none⟩, ⟨128261, .val, none⟩, ⟨128260, .own, none⟩, ⟨128259, .own, none⟩, ⟨128258, .own, none⟩, ⟨128257, .own, none⟩, ⟨128256, .own, none⟩, ⟨128133, .val, none⟩, ⟨128132, .own, none⟩, ⟨128131, .own, none⟩, ⟨128130, .own, none⟩, ⟨128129, .own, none⟩, ⟨128128, .own, none⟩, ⟨1728, .val, (some (.one .leaf))⟩, ⟨512, .own, (some (.one .leaf))⟩, ⟨1664, .val, (some (.one .leaf))⟩, ⟨384, .val, (some (.one .leaf))⟩, ⟨448, .val, (some (.one .leaf))⟩, ⟨384064, .dead, (some (.bx 6))⟩, ⟨64, (.ptr 1 0), (some (.one .leaf))⟩, ⟨384256, .dead, (some (.bx 6))⟩, ⟨256, (.ptr 4 0), (some (.one .leaf))⟩, ⟨384128, .dead, (some (.bx 6))⟩, ⟨128, (.ptr 2 0), (some (.one .leaf))⟩]⟩]
theorem G91 : ∀ K x, denF K Tryz.prog (tab K) (ents.take 91) h91 ⟨204, [.v (.agg 6) [.rd, .rd, .rd, .rd, .rd, .val]], (.tup [(.agg 6), .leaf]), [.own, .own, .own, .own, .own, .val, .val]⟩ [(.sl tI), (.sl (.st .node)), (.sl (.st .age)), (.sl (.st .cell)), (.sl (.st .vol)), tI] [(.sl tI), (.sl (.st .node)), (.sl (.st .age)), (.sl (.st .cell)), (.sl (.st .vol)), tI, tB] x = spec_PruneStep K x.1 x.2.1 x.2.2.1 x.2.2.2.1 x.2.2.2.2.1 x.2.2.2.2.2.1 := fun K x => by kernel_rfl
def h92 : List Hint := []
theorem G92 : ∀ K x, denF K Tryz.prog (tab K) (ents.take 92) h92 ⟨128, [.v (.agg 1) [.rd]], (.one (.agg 1)), [.own]⟩ [(.sl (.sl (.st .key)))] [(.sl (.sl (.st .key)))] x = spec_NodePack K x.1 := fun K x => by kernel_rfl
def h93 : List Hint := [⟨8, [128321, 128320, 128257, 128256], [(.sl (.st .node)), (.sl tI), (.sl (.st .node)), (.sl tI)], [⟨128321, .own, none⟩, ⟨128320, .own, none⟩, ⟨128257, .own, none⟩, ⟨128256, .own, none⟩, ⟨384320, .dead, (some (.bx 2))⟩, ⟨320, (.ptr 5 0), (some (.one .leaf))⟩, ⟨384256, .dead, (some (.bx 2))⟩, ⟨256, (.ptr 4 0), (some (.one .leaf))⟩]⟩]
theorem G93 : ∀ K x, denF K Tryz.prog (tab K) (ents.take 93) h93 ⟨79, [.v (.agg 2) [.rd, .rd], .v .leaf [.val]], (.one (.agg 2)), [.own, .own]⟩ [(.sl tI), (.sl (.st .node)), tI] [(.sl tI), (.sl (.st .node))] x = spec_TreePack K x.1 x.2.1 x.2.2.1 := fun K x => by kernel_rfl
def h94 : List Hint := []
theorem G94 : ∀ K x, denF K Tryz.prog (tab K) (ents.take 94) h94 ⟨32, [.v (.agg 6) [.rd, .rd, .rd, .rd, .rd, .val], .v .leaf [.val]], (.tup [(.agg 6), .leaf]), [.own, .own, .own, .own, .own, .val, .val]⟩ [(.sl tI), (.sl (.st .node)), (.sl (.st .age)), (.sl (.st .cell)), (.sl (.st .vol)), tI, tI] [(.sl tI), (.sl (.st .node)), (.sl (.st .age)), (.sl (.st .cell)), (.sl (.st .vol)), tI, tB] x = spec_PackStep K x.1 x.2.1 x.2.2.1 x.2.2.2.1 x.2.2.2.2.1 x.2.2.2.2.2.1 x.2.2.2.2.2.2.1 := fun K x => by kernel_rfl
def h95 : List Hint := [⟨7, [128260, 128259, 128258, 128257, 128256, 64, 320, 384], [tI, tI, tI, tI, tI, tI, (.sl (.st .key)), tI], [⟨128260, .val, none⟩, ⟨128259, .val, none⟩, ⟨128258, .val, none⟩, ⟨128257, .val, none⟩, ⟨128256, .val, none⟩, ⟨384256, .dead, (some (.bx 5))⟩, ⟨256, (.ptr 4 0), (some (.one .leaf))⟩, ⟨64, .val, (some (.one .leaf))⟩, ⟨320, .own, (some (.one .leaf))⟩, ⟨384, .val, (some (.one .leaf))⟩]⟩]
theorem G95 : ∀ K x, denF K Tryz.prog (tab K) (ents.take 95) h95 ⟨83, [.v (.agg 6) [.rd, .rd, .rd, .rd, .rd, .val], .v .leaf [.val]], (.one (.agg 5)), [.val, .val, .val, .val, .val]⟩ [(.sl tI), (.sl (.st .node)), (.sl (.st .age)), (.sl (.st .cell)), (.sl (.st .vol)), tI, tI] [tI, tI, tI, tI, tI] x = spec_l14Key K x.1 x.2.1 x.2.2.1 x.2.2.2.1 x.2.2.2.2.1 x.2.2.2.2.2.1 x.2.2.2.2.2.2.1 := fun K x => by kernel_rfl
def h96 : List Hint := []
theorem G96 : ∀ K x, denF K Tryz.prog (tab K) (ents.take 96) h96 ⟨35, [.v (.agg 6) [.rd, .rd, .rd, .rd, .rd, .val], .v .leaf [.val]], (.tup [(.agg 6), .leaf]), [.own, .own, .own, .own, .own, .val, .val]⟩ [(.sl tI), (.sl (.st .node)), (.sl (.st .age)), (.sl (.st .cell)), (.sl (.st .vol)), tI, tI] [(.sl tI), (.sl (.st .node)), (.sl (.st .age)), (.sl (.st .cell)), (.sl (.st .vol)), tI, tB] x = spec_MoveStep K x.1 x.2.1 x.2.2.1 x.2.2.2.1 x.2.2.2.2.1 x.2.2.2.2.2.1 x.2.2.2.2.2.2.1 := fun K x => by kernel_rfl
def h97 : List Hint := []
theorem G97 : ∀ K x, denF K Tryz.prog (tab K) (ents.take 97) h97 ⟨161, [.v (.agg 6) [.rd, .rd, .rd, .rd, .rd, .val], .v (.agg 5) [.val, .val, .val, .val, .val]], (.tup [(.agg 6), .leaf]), [.own, .own, .own, .own, .own, .val, .val]⟩ [(.sl tI), (.sl (.st .node)), (.sl (.st .age)), (.sl (.st .cell)), (.sl (.st .vol)), tI, tI, tS, tS, tI, tI] [(.sl tI), (.sl (.st .node)), (.sl (.st .age)), (.sl (.st .cell)), (.sl (.st .vol)), tI, tB] x = spec_l15Step K x.1 x.2.1 x.2.2.1 x.2.2.2.1 x.2.2.2.2.1 x.2.2.2.2.2.1 x.2.2.2.2.2.2.1 x.2.2.2.2.2.2.2.1 x.2.2.2.2.2.2.2.2.1 x.2.2.2.2.2.2.2.2.2.1 x.2.2.2.2.2.2.2.2.2.2.1 := fun K x => by kernel_rfl
def h98 : List Hint := []
theorem G98 : ∀ K x, denF K Tryz.prog (tab K) (ents.take 98) h98 ⟨98, [.v (.agg 6) [.rd, .rd, .rd, .rd, .rd, .val], .v (.agg 5) [.val, .val, .val, .val, .val]], (.tup [(.agg 6), .leaf]), [.own, .own, .own, .own, .own, .val, .val]⟩ [(.sl tI), (.sl (.st .node)), (.sl (.st .age)), (.sl (.st .cell)), (.sl (.st .vol)), tI, tI, tS, tS, tI, tI] [(.sl tI), (.sl (.st .node)), (.sl (.st .age)), (.sl (.st .cell)), (.sl (.st .vol)), tI, tI] x = spec_Apply K x.1 x.2.1 x.2.2.1 x.2.2.2.1 x.2.2.2.2.1 x.2.2.2.2.2.1 x.2.2.2.2.2.2.1 x.2.2.2.2.2.2.2.1 x.2.2.2.2.2.2.2.2.1 x.2.2.2.2.2.2.2.2.2.1 x.2.2.2.2.2.2.2.2.2.2.1 := fun K x => by kernel_rfl
def h99 : List Hint := [⟨7, [128261, 128260, 128259, 128258, 128257, 128256, 128325, 128324, 128323, 128322, 128321, 128320, 384, 256000, 128001, 128002], [tI, (.sl (.st .vol)), (.sl (.st .cell)), (.sl (.st .age)), (.sl (.st .node)), (.sl tI), tI, (.sl (.st .vol)), (.sl (.st .cell)), (.sl (.st .age)), (.sl (.st .node)), (.sl tI), tI, (.sl tU), tI, tI], [⟨128261, .val, none⟩, ⟨128260, .own, none⟩, ⟨128259, .own, none⟩, ⟨128258, .own, none⟩, ⟨128257, .own, none⟩, ⟨128256, .own, none⟩, ⟨128325, .val, none⟩, ⟨128324, .own, none⟩, ⟨128323, .own, none⟩, ⟨128322, .own, none⟩, ⟨128321, .own, none⟩, ⟨128320, .own, none⟩, ⟨384256, .dead, (some (.bx 6))⟩, ⟨256, (.ptr 4 0), (some (.one .leaf))⟩, ⟨384320, .dead, (some (.bx 6))⟩, ⟨320, (.ptr 5 0), (some (.one .leaf))⟩, ⟨0, (.ptr 0 0), (some (.one .leaf))⟩, ⟨384, .val, (some (.one .leaf))⟩, ⟨256000, .rd, none⟩, ⟨128000, (.al 256000), none⟩, ⟨128001, .val, none⟩, ⟨128002, .val, none⟩, ⟨384000, .dead, (some (.bx 3))⟩]⟩]
theorem G99 : ∀ K x, denF K Tryz.prog (tab K) (ents.take 99) h99 ⟨43, [.p [.rd, .val, .val] [.same, .val, .val], .v .leaf [.val]], (.one (.agg 6)), [.own, .own, .own, .own, .own, .val]⟩ [(.sl tU), tI, tI, tI] [(.sl tI), (.sl (.st .node)), (.sl (.st .age)), (.sl (.st .cell)), (.sl (.st .vol)), tI, tI, tI] x = spec_l10Draw K x.1 x.2.1 x.2.2.1 x.2.2.2.1 := fun K x => by kernel_rfl
def h100 : List Hint := []
theorem G100 : ∀ K x, denF K Tryz.prog (tab K) (ents.take 100) h100 ⟨9, [.v .leaf [.val]], (.tup [(.agg 6), (.agg 5)]), [.own, .own, .own, .own, .own, .val, .val, .val, .val, .val, .val]⟩ [(.sl tU)] [(.sl tI), (.sl (.st .node)), (.sl (.st .age)), (.sl (.st .cell)), (.sl (.st .vol)), tI, tI, tS, tS, tI, tI] x = spec_DrawPool_v K x.1 := fun K x => by kernel_rfl
def h101 : List Hint := []
theorem G101 : ∀ K x, denF K Tryz.prog (tab K) (ents.take 101) h101 ⟨150, [.v (.agg 4) [.val, .val, .val, .val], .p [.val] [.same]], (.one .leaf), [.val]⟩ [tS, tI, tI, tB, tS] [tB] x = impl_VolAt_1 K x.1 x.2.1 x.2.2.1 x.2.2.2.1 x.2.2.2.2.1 := fun K x => by kernel_rfl
def h102 : List Hint := [⟨5, [0, 512, 448, 275712], [(.sl (.st .vol)), tI, tI, tS], [⟨64, (.clo 150 [(308, 0)]), (some (.one .leaf))⟩, ⟨0, .rd, (some (.one .leaf))⟩, ⟨512, .val, (some (.one .leaf))⟩, ⟨448, .val, (some (.one .leaf))⟩, ⟨275712, .val, none⟩, ⟨147712, (.al 275712), none⟩, ⟨403712, .dead, (some (.bx 1))⟩]⟩]
theorem G102 : ∀ K x, denF K Tryz.prog (tab K) (ents.take 102) h102 ⟨112, [.v .leaf [.rd], .f 150 [[.val]]], (.one .leaf), [.val]⟩ [(.sl (.st .vol)), tS] [tI] x = slices_IndexFunc__impl_Vol_impl_Vol_impl_VolAt_1 K x.1 x.2.1 := fun K x => by kernel_rfl
def h103 : List Hint := []
theorem G103 : ∀ K x, denF K Tryz.prog (tab K) (ents.take 103) h103 ⟨90, [.v (.agg 6) [.rd, .rd, .rd, .rd, .rd, .val], .v .leaf [.val]], (.one .leaf), [.val]⟩ [(.sl tI), (.sl (.st .node)), (.sl (.st .age)), (.sl (.st .cell)), (.sl (.st .vol)), tI, tS] [tI] x = impl_VolAt K x.1 x.2.1 x.2.2.1 x.2.2.2.1 x.2.2.2.2.1 x.2.2.2.2.2.1 x.2.2.2.2.2.2.1 := fun K x => by kernel_rfl
def h104 : List Hint := []
theorem G104 : ∀ K x, denF K Tryz.prog (tab K) (ents.take 104) h104 ⟨70, [.v .leaf [.val], .v .leaf [.val], .v .leaf [.val]], (.one .leaf), [.val]⟩ [tI, tI, tI] [tB] x = impl_within K x.1 x.2.1 x.2.2.1 := fun K x => by kernel_rfl
def h105 : List Hint := []
theorem G105 : ∀ K x, denF K Tryz.prog (tab K) (ents.take 105) h105 ⟨129, [.v (.agg 5) [.val, .val, .val, .val, .val]], (.one .leaf), [.val]⟩ [tI, tI, tI, tI, tI] [tB] x = impl_KeyOk K x.1 x.2.1 x.2.2.1 x.2.2.2.1 x.2.2.2.2.1 := fun K x => by kernel_rfl
def h106 : List Hint := []
theorem G106 : ∀ K x, denF K Tryz.prog (tab K) (ents.take 106) h106 ⟨207, [.v (.agg 5) [.val, .val, .val, .val, .val], .v (.agg 5) [.val, .val, .val, .val, .val]], (.one .leaf), [.val]⟩ [tI, tI, tI, tI, tI, tI, tI, tI, tI, tI] [tB] x = impl_LessKey K x.1 x.2.1 x.2.2.1 x.2.2.2.1 x.2.2.2.2.1 x.2.2.2.2.2.1 x.2.2.2.2.2.2.1 x.2.2.2.2.2.2.2.1 x.2.2.2.2.2.2.2.2.1 x.2.2.2.2.2.2.2.2.2.1 := fun K x => by kernel_rfl
def h107 : List Hint := [⟨5, [0, 320, 448, 384], [(.sl (.st .key)), (.sl (.st .key)), tI, tI], [⟨0, .rd, (some (.one .leaf))⟩, ⟨320, .rd, (some (.one .leaf))⟩, ⟨448, .val, (some (.one .leaf))⟩, ⟨384, .val, (some (.one .leaf))⟩]⟩]
theorem G107 : ∀ K x, denF K Tryz.prog (tab K) (ents.take 107) h107 ⟨171, [.v .leaf [.rd]], (.one .leaf), [.val]⟩ [(.sl (.st .key))] [tB] x = impl_SetOk K x.1 := fun K x => by kernel_rfl
def h108 : List Hint := [⟨7, [128064, 192, 448, 576, 512], [(.sl (.sl (.st .key))), tI, (.sl (.sl (.st .key))), tI, tI], [⟨128064, .rd, none⟩, ⟨192, .val, (some (.one .leaf))⟩, ⟨384064, .dead, (some (.bx 1))⟩, ⟨64, (.ptr 1 0), (some (.one .leaf))⟩, ⟨448, .rd, (some (.one .leaf))⟩, ⟨576, .val, (some (.one .leaf))⟩, ⟨512, .val, (some (.one .leaf))⟩]⟩]
theorem G108 : ∀ K x, denF K Tryz.prog (tab K) (ents.take 108) h108 ⟨115, [.v (.agg 1) [.rd]], (.one .leaf), [.val]⟩ [(.sl (.sl (.st .key)))] [tB] x = impl_NodeOk K x.1 := fun K x => by kernel_rfl
def h109 : List Hint := []
theorem G109 : ∀ K x, denF K Tryz.prog (tab K) (ents.take 109) h109 ⟨134, [.v .leaf [.val], .v .leaf [.val]], (.one .leaf), [.val]⟩ [tI, tI] [tI] x = impl_SpotOf K x.1 x.2.1 := fun K x => by kernel_rfl
def h110 : List Hint := [⟨11, [128129, 128128, 1024, 64, 960, 1088, 1344, 1472, 1408], [(.sl (.st .node)), (.sl tI), tI, tI, (.sl (.sl (.st .key))), tI, (.sl (.st .key)), tI, tI], [⟨128129, .rd, none⟩, ⟨128128, .rd, none⟩, ⟨1024, .val, (some (.one .leaf))⟩, ⟨64, .val, (some (.one .leaf))⟩, ⟨384128, .dead, (some (.bx 2))⟩, ⟨128, (.ptr 2 0), (some (.one .leaf))⟩, ⟨960, .val, (some (.one .leaf))⟩, ⟨1088, .val, (some (.one .leaf))⟩, ⟨1344, .val, (some (.one .leaf))⟩, ⟨1472, .val, (some (.one .leaf))⟩, ⟨1408, .val, (some (.one .leaf))⟩]⟩, ⟨5, [128129, 128128, 960, 1088, 64, 1024], [(.sl (.st .node)), (.sl tI), (.sl (.sl (.st .key))), tI, tI, tI], [⟨128129, .rd, none⟩, ⟨128128, .rd, none⟩, ⟨960, .val, (some (.one .leaf))⟩, ⟨1088, .val, (some (.one .leaf))⟩, ⟨384128, .dead, (some (.bx 2))⟩, ⟨128, (.ptr 2 0), (some (.one .leaf))⟩, ⟨64, .val, (some (.one .leaf))⟩, ⟨1024, .val, (some (.one .leaf))⟩]⟩]
theorem G110 : ∀ K x, denF K Tryz.prog (tab K) (ents.take 110) h110 ⟨116, [.v (.agg 2) [.rd, .rd], .v .leaf [.val]], (.one .leaf), [.val]⟩ [(.sl tI), (.sl (.st .node)), tI] [tB] x = impl_inBounds K x.1 x.2.1 x.2.2.1 := fun K x => by kernel_rfl
def h111 : List Hint := []
theorem G111 : ∀ K x, denF K Tryz.prog (tab K) (ents.take 111) h111 ⟨168, [.v .leaf [.rd]], (.one .leaf), [.own]⟩ [(.sl (.st .key))] [(.sl (.st .key))] x = impl_copyKeys K x.1 := fun K x => by kernel_rfl
def h112 : List Hint := []
theorem G112 : ∀ K x, denF K Tryz.prog (tab K) (ents.take 112) h112 ⟨208, [.v (.agg 5) [.val, .val, .val, .val, .val], .v (.agg 5) [.val, .val, .val, .val, .val]], (.one .leaf), [.val]⟩ [tI, tI, tI, tI, tI, tI, tI, tI, tI, tI] [tB] x = impl_SameSpot K x.1 x.2.1 x.2.2.1 x.2.2.2.1 x.2.2.2.2.1 x.2.2.2.2.2.1 x.2.2.2.2.2.2.1 x.2.2.2.2.2.2.2.1 x.2.2.2.2.2.2.2.2.1 x.2.2.2.2.2.2.2.2.2.1 := fun K x => by kernel_rfl
def h113 : List Hint := [⟨28, [320], [(.sl (.st .key))], [⟨320, .own, (some (.one .leaf))⟩]⟩, ⟨22, [128196, 128195, 128194, 128193, 128192, 768, 320, 384, 640, 704], [tI, tI, tI, tI, tI, tI, (.sl (.st .key)), tB, (.sl (.st .key)), tI], [⟨128196, .val, none⟩, ⟨128195, .val, none⟩, ⟨128194, .val, none⟩, ⟨128193, .val, none⟩, ⟨128192, .val, none⟩, ⟨768, .val, (some (.one .leaf))⟩, ⟨320, .own, (some (.one .leaf))⟩, ⟨384192, .dead, (some (.bx 5))⟩, ⟨192, (.ptr 3 0), (some (.one .leaf))⟩, ⟨384, .val, (some (.one .leaf))⟩, ⟨640, .rd, (some (.one .leaf))⟩, ⟨704, .val, (some (.one .leaf))⟩]⟩, ⟨18, [128516, 128515, 128514, 128513, 128512, 128196, 128195, 128194, 128193, 128192, 768, 320, 384, 640, 704], [tI, tI, tI, tI, tI, tI, tI, tI, tI, tI, tI, (.sl (.st .key)), tB, (.sl (.st .key)), tI], [⟨128516, .val, none⟩, ⟨128515, .val, none⟩, ⟨128514, .val, none⟩, ⟨128513, .val, none⟩, ⟨128512, .val, none⟩, ⟨128196, .val, none⟩, ⟨128195, .val, none⟩, ⟨128194, .val, none⟩, ⟨128193, .val, none⟩, ⟨128192, .val, none⟩, ⟨384512, .dead, (some (.bx 5))⟩, ⟨512, (.ptr 8 0), (some (.one .leaf))⟩, ⟨768, .val, (some (.one .leaf))⟩, ⟨320, .own, (some (.one .leaf))⟩, ⟨384192, .dead, (some (.bx 5))⟩, ⟨192, (.ptr 3 0), (some (.one .leaf))⟩, ⟨384, .val, (some (.one .leaf))⟩, ⟨640, .rd, (some (.one .leaf))⟩, ⟨704, .val, (some (.one .leaf))⟩]⟩, ⟨9, [128196, 128195, 128194, 128193, 128192, 320, 384, 640, 768, 704], [tI, tI, tI, tI, tI, (.sl (.st .key)), tB, (.sl (.st .key)), tI, tI], [⟨128196, .val, none⟩, ⟨128195, .val, none⟩, ⟨128194, .val, none⟩, ⟨128193, .val, none⟩, ⟨128192, .val, none⟩, ⟨320, .own, (some (.one .leaf))⟩, ⟨384192, .dead, (some (.bx 5))⟩, ⟨192, (.ptr 3 0), (some (.one .leaf))⟩, ⟨384, .val, (some (.one .leaf))⟩, ⟨640, .rd, (some (.one .leaf))⟩, ⟨768, .val, (some (.one .leaf))⟩, ⟨704, .val, (some (.one .leaf))⟩]⟩]
theorem G113 : ∀ K x, denF K Tryz.prog (tab K) (ents.take 113) h113 ⟨169, [.v .leaf [.rd], .v (.agg 5) [.val, .val, .val, .val, .val]], (.one .leaf), [.own]⟩ [(.sl (.st .key)), tI, tI, tI, tI, tI] [(.sl (.st .key))] x = impl_SetPut K x.1 x.2.1 x.2.2.1 x.2.2.2.1 x.2.2.2.2.1 x.2.2.2.2.2.1 := fun K x => by kernel_rfl
def h114 : List Hint := [⟨7, [320, 640, 768, 704], [(.sl (.st .key)), (.sl (.st .key)), tI, tI], [⟨320, .own, (some (.one .leaf))⟩, ⟨640, .rd, (some (.one .leaf))⟩, ⟨768, .val, (some (.one .leaf))⟩, ⟨704, .val, (some (.one .leaf))⟩]⟩]
theorem G114 : ∀ K x, denF K Tryz.prog (tab K) (ents.take 114) h114 ⟨110, [.v .leaf [.rd], .v .leaf [.rd]], (.one .leaf), [.own]⟩ [(.sl (.st .key)), (.sl (.st .key))] [(.sl (.st .key))] x = impl_MergeSets K x.1 x.2.1 := fun K x => by kernel_rfl
def h115 : List Hint := [⟨14, [576, 192, 448, 512], [tI, (.sl (.st .key)), (.sl (.st .key)), tI], [⟨576, .val, (some (.one .leaf))⟩, ⟨192, .own, (some (.one .leaf))⟩, ⟨448, .rd, (some (.one .leaf))⟩, ⟨512, .val, (some (.one .leaf))⟩]⟩, ⟨7, [192, 448, 576, 512], [(.sl (.st .key)), (.sl (.st .key)), tI, tI], [⟨192, .own, (some (.one .leaf))⟩, ⟨448, .rd, (some (.one .leaf))⟩, ⟨576, .val, (some (.one .leaf))⟩, ⟨512, .val, (some (.one .leaf))⟩]⟩]
theorem G115 : ∀ K x, denF K Tryz.prog (tab K) (ents.take 115) h115 ⟨111, [.v .leaf [.rd]], (.one .leaf), [.own]⟩ [(.sl (.st .key))] [(.sl (.st .key))] x = impl_Drop K x.1 := fun K x => by kernel_rfl
def h116 : List Hint := [⟨7, [192, 512, 640, 576], [(.sl (.st .key)), (.sl (.sl (.st .key))), tI, tI], [⟨192, .own, (some (.one .leaf))⟩, ⟨512, .rd, (some (.one .leaf))⟩, ⟨640, .val, (some (.one .leaf))⟩, ⟨576, .val, (some (.one .leaf))⟩]⟩]
theorem G116 : ∀ K x, denF K Tryz.prog (tab K) (ents.take 116) h116 ⟨58, [.v (.agg 1) [.rd]], (.one .leaf), [.own]⟩ [(.sl (.sl (.st .key)))] [(.sl (.st .key))] x = impl_NodeKeys K x.1 := fun K x => by kernel_rfl
def h117 : List Hint := [⟨11, [128065, 128064, 192, 1856, 1984, 1920], [(.sl (.st .node)), (.sl tI), tI, (.sl (.st .node)), tI, tI], [⟨128065, .rd, none⟩, ⟨128064, .rd, none⟩, ⟨192, .val, (some (.one .leaf))⟩, ⟨1856, .rd, (some (.one .leaf))⟩, ⟨384064, .dead, (some (.bx 2))⟩, ⟨64, (.ptr 1 0), (some (.one .leaf))⟩, ⟨1984, .val, (some (.one .leaf))⟩, ⟨1920, .val, (some (.one .leaf))⟩]⟩]
theorem G117 : ∀ K x, denF K Tryz.prog (tab K) (ents.take 117) h117 ⟨67, [.v (.agg 2) [.rd, .rd]], (.one .leaf), [.val]⟩ [(.sl tI), (.sl (.st .node))] [tB] x = impl_TreeOk K x.1 x.2.1 := fun K x => by kernel_rfl
def h118 : List Hint := []
theorem G118 : ∀ K x, denF K Tryz.prog (tab K) (ents.take 118) h118 ⟨173, [.v (.agg 2) [.val, .val], .p [.val] [.same]], (.one .leaf), [.val]⟩ [tI, tI, tI] [tB] x = impl_AgeAt_1 K x.1 x.2.1 x.2.2.1 := fun K x => by kernel_rfl
def h119 : List Hint := [⟨5, [0, 512, 448, 275712], [(.sl (.st .age)), tI, tI, tI], [⟨64, (.clo 173 [(308, 0)]), (some (.one .leaf))⟩, ⟨0, .rd, (some (.one .leaf))⟩, ⟨512, .val, (some (.one .leaf))⟩, ⟨448, .val, (some (.one .leaf))⟩, ⟨275712, .val, none⟩, ⟨147712, (.al 275712), none⟩, ⟨403712, .dead, (some (.bx 1))⟩]⟩]
theorem G119 : ∀ K x, denF K Tryz.prog (tab K) (ents.take 119) h119 ⟨172, [.v .leaf [.rd], .f 173 [[.val]]], (.one .leaf), [.val]⟩ [(.sl (.st .age)), tI] [tI] x = slices_IndexFunc__impl_Age_impl_Age_impl_AgeAt_1 K x.1 x.2.1 := fun K x => by kernel_rfl
end Go.Proofs.Fw.R1
set_option linter.unusedVariables false
set_option maxRecDepth 100000
namespace Go.Proofs.Fw.R1
open Go Go.Proofs Go.Proofs.Fw
def h120 : List Hint := []
theorem G120 : ∀ K x, denF K Tryz.prog (tab K) (ents.take 120) h120 ⟨117, [.v .leaf [.rd], .v .leaf [.val]], (.one .leaf), [.val]⟩ [(.sl (.st .age)), tI] [tI] x = impl_AgeAt K x.1 x.2.1 := fun K x => by kernel_rfl
def h121 : List Hint := [⟨5, [0, 320, 448, 384], [(.sl (.st .age)), (.sl (.st .age)), tI, tI], [⟨0, .rd, (some (.one .leaf))⟩, ⟨320, .rd, (some (.one .leaf))⟩, ⟨448, .val, (some (.one .leaf))⟩, ⟨384, .val, (some (.one .leaf))⟩]⟩]
theorem G121 : ∀ K x, denF K Tryz.prog (tab K) (ents.take 121) h121 ⟨68, [.v .leaf [.rd]], (.one .leaf), [.val]⟩ [(.sl (.st .age))] [tB] x = impl_AgesOk K x.1 := fun K x => by kernel_rfl
def h122 : List Hint := []
theorem G122 : ∀ K x, denF K Tryz.prog (tab K) (ents.take 122) h122 ⟨48, [.v .leaf [.val]], (.one .leaf), [.val]⟩ [tI] [tB] x = impl_isWord K x.1 := fun K x => by kernel_rfl
def h123 : List Hint := [⟨5, [0, 320, 448, 384], [(.sl (.st .cell)), (.sl (.st .cell)), tI, tI], [⟨0, .rd, (some (.one .leaf))⟩, ⟨320, .rd, (some (.one .leaf))⟩, ⟨448, .val, (some (.one .leaf))⟩, ⟨384, .val, (some (.one .leaf))⟩]⟩]
theorem G123 : ∀ K x, denF K Tryz.prog (tab K) (ents.take 123) h123 ⟨69, [.v .leaf [.rd]], (.one .leaf), [.val]⟩ [(.sl (.st .cell))] [tB] x = impl_CellsOk K x.1 := fun K x => by kernel_rfl
def h124 : List Hint := [⟨5, [0, 192], [tS, tI], [⟨0, .val, (some (.one .leaf))⟩, ⟨192, .val, (some (.one .leaf))⟩]⟩]
theorem G124 : ∀ K x, denF K Tryz.prog (tab K) (ents.take 124) h124 ⟨91, [.v .leaf [.val]], (.one .leaf), [.val]⟩ [tS] [tB] x = impl_NameOk K x.1 := fun K x => by kernel_rfl
def h125 : List Hint := [⟨18, [896, 320, 768, 64, 832], [tI, (.sl tI), (.sl (.st .age)), tI, tI], [⟨896, .val, (some (.one .leaf))⟩, ⟨320, .own, (some (.one .leaf))⟩, ⟨768, .rd, (some (.one .leaf))⟩, ⟨64, .val, (some (.one .leaf))⟩, ⟨832, .val, (some (.one .leaf))⟩]⟩, ⟨11, [320, 768, 64, 896, 832], [(.sl tI), (.sl (.st .age)), tI, tI, tI], [⟨320, .own, (some (.one .leaf))⟩, ⟨768, .rd, (some (.one .leaf))⟩, ⟨64, .val, (some (.one .leaf))⟩, ⟨896, .val, (some (.one .leaf))⟩, ⟨832, .val, (some (.one .leaf))⟩]⟩]
theorem G125 : ∀ K x, denF K Tryz.prog (tab K) (ents.take 125) h125 ⟨20, [.v .leaf [.rd], .v .leaf [.val]], (.one .leaf), [.own]⟩ [(.sl (.st .age)), tI] [(.sl tI)] x = impl_KidsOf K x.1 x.2.1 := fun K x => by kernel_rfl
def h126 : List Hint := []
theorem G126 : ∀ K x, denF K Tryz.prog (tab K) (ents.take 126) h126 ⟨118, [.v (.agg 4) [.val, .val, .val, .val], .p [.val, .val, .val, .val] [.same, .same, .same, .same]], (.one .leaf), [.val]⟩ [tS, tI, tI, tB, tS, tI, tI, tB] [tB] x = impl_volsOk_1 K x.1 x.2.1 x.2.2.1 x.2.2.2.1 x.2.2.2.2.1 x.2.2.2.2.2.1 x.2.2.2.2.2.2.1 x.2.2.2.2.2.2.2.1 := fun K x => by kernel_rfl
def h127 : List Hint := [⟨5, [0, 512, 448, 275712, 275713, 275714, 275715], [(.sl (.st .vol)), tI, tI, tS, tI, tI, tB], [⟨64, (.clo 118 [(308, 0)]), (some (.one .leaf))⟩, ⟨0, .rd, (some (.one .leaf))⟩, ⟨512, .val, (some (.one .leaf))⟩, ⟨448, .val, (some (.one .leaf))⟩, ⟨275712, .val, none⟩, ⟨147712, (.al 275712), none⟩, ⟨275713, .val, none⟩, ⟨147713, (.al 275713), none⟩, ⟨275714, .val, none⟩, ⟨147714, (.al 275714), none⟩, ⟨275715, .val, none⟩, ⟨147715, (.al 275715), none⟩, ⟨403712, .dead, (some (.bx 4))⟩]⟩]
theorem G127 : ∀ K x, denF K Tryz.prog (tab K) (ents.take 127) h127 ⟨112, [.v .leaf [.rd], .f 118 [[.val, .val, .val, .val]]], (.one .leaf), [.val]⟩ [(.sl (.st .vol)), tS, tI, tI, tB] [tI] x = slices_IndexFunc__impl_Vol_impl_Vol_impl_volsOk_1 K x.1 x.2.1 x.2.2.1 x.2.2.2.1 x.2.2.2.2.1 := fun K x => by kernel_rfl
def h128 : List Hint := []
theorem G128 : ∀ K x, denF K Tryz.prog (tab K) (ents.take 128) h128 ⟨60, [.v .leaf [.rd], .f 118 [[.val, .val, .val, .val]]], (.one .leaf), [.val]⟩ [(.sl (.st .vol)), tS, tI, tI, tB] [tB] x = slices_ContainsFunc__impl_Vol_impl_Vol_impl_volsOk_1 K x.1 x.2.1 x.2.2.1 x.2.2.2.1 x.2.2.2.2.1 := fun K x => by kernel_rfl
def h129 : List Hint := [⟨5, [128069, 128068, 128067, 128066, 128065, 128064, 384, 512, 448], [tI, (.sl (.st .vol)), (.sl (.st .cell)), (.sl (.st .age)), (.sl (.st .node)), (.sl tI), (.sl (.st .vol)), tI, tI], [⟨128069, .val, none⟩, ⟨128068, .rd, none⟩, ⟨128067, .rd, none⟩, ⟨128066, .rd, none⟩, ⟨128065, .rd, none⟩, ⟨128064, .rd, none⟩, ⟨384064, .dead, (some (.bx 6))⟩, ⟨64, (.ptr 1 0), (some (.one .leaf))⟩, ⟨384, .rd, (some (.one .leaf))⟩, ⟨512, .val, (some (.one .leaf))⟩, ⟨448, .val, (some (.one .leaf))⟩]⟩]
theorem G129 : ∀ K x, denF K Tryz.prog (tab K) (ents.take 129) h129 ⟨71, [.v (.agg 6) [.rd, .rd, .rd, .rd, .rd, .val]], (.one .leaf), [.val]⟩ [(.sl tI), (.sl (.st .node)), (.sl (.st .age)), (.sl (.st .cell)), (.sl (.st .vol)), tI] [tB] x = impl_volsOk K x.1 x.2.1 x.2.2.1 x.2.2.2.1 x.2.2.2.2.1 x.2.2.2.2.2.1 := fun K x => by kernel_rfl
def h130 : List Hint := [⟨7, [192, 512, 640, 576], [(.sl (.st .key)), (.sl (.st .node)), tI, tI], [⟨192, .own, (some (.one .leaf))⟩, ⟨512, .rd, (some (.one .leaf))⟩, ⟨640, .val, (some (.one .leaf))⟩, ⟨576, .val, (some (.one .leaf))⟩]⟩]
theorem G130 : ∀ K x, denF K Tryz.prog (tab K) (ents.take 130) h130 ⟨17, [.v (.agg 2) [.rd, .rd]], (.one .leaf), [.own]⟩ [(.sl tI), (.sl (.st .node))] [(.sl (.st .key))] x = impl_TreeKeys K x.1 x.2.1 := fun K x => by kernel_rfl
def h131 : List Hint := []
theorem G131 : ∀ K x, denF K Tryz.prog (tab K) (ents.take 131) h131 ⟨103, [.v .leaf [.rd], .v .leaf [.val], .v .leaf [.val]], (.tup [.leaf, .leaf]), [.val, .val]⟩ [(.sl (.st .cell)), tI, tI] [tI, tB] x = impl_CellAt K x.1 x.2.1 x.2.2.1 := fun K x => by kernel_rfl
def h132 : List Hint := [⟨14, [512, 192, 384, 448], [tI, tI, (.sl (.st .cell)), tI], [⟨512, .val, (some (.one .leaf))⟩, ⟨192, .val, (some (.one .leaf))⟩, ⟨384, .rd, (some (.one .leaf))⟩, ⟨448, .val, (some (.one .leaf))⟩]⟩, ⟨7, [192, 384, 512, 448], [tI, (.sl (.st .cell)), tI, tI], [⟨192, .val, (some (.one .leaf))⟩, ⟨384, .rd, (some (.one .leaf))⟩, ⟨512, .val, (some (.one .leaf))⟩, ⟨448, .val, (some (.one .leaf))⟩]⟩]
theorem G132 : ∀ K x, denF K Tryz.prog (tab K) (ents.take 132) h132 ⟨25, [.v .leaf [.rd]], (.one .leaf), [.val]⟩ [(.sl (.st .cell))] [tI] x = impl_UsedCells K x.1 := fun K x => by kernel_rfl
def h133 : List Hint := [⟨28, [128069, 128068, 128067, 128066, 128065, 128064, 896, 256, 768, 192, 832], [tI, (.sl (.st .vol)), (.sl (.st .cell)), (.sl (.st .age)), (.sl (.st .node)), (.sl tI), tI, tI, (.sl (.st .key)), (.sl tB), tI], [⟨128069, .val, none⟩, ⟨128068, .rd, none⟩, ⟨128067, .rd, none⟩, ⟨128066, .rd, none⟩, ⟨128065, .rd, none⟩, ⟨128064, .rd, none⟩, ⟨896, .val, (some (.one .leaf))⟩, ⟨256, .val, (some (.one .leaf))⟩, ⟨384064, .dead, (some (.bx 6))⟩, ⟨64, (.ptr 1 0), (some (.one .leaf))⟩, ⟨768, .own, (some (.one .leaf))⟩, ⟨192, .own, (some (.one .leaf))⟩, ⟨832, .val, (some (.one .leaf))⟩]⟩, ⟨9, [128069, 128068, 128067, 128066, 128065, 128064, 256, 768, 192, 896, 832], [tI, (.sl (.st .vol)), (.sl (.st .cell)), (.sl (.st .age)), (.sl (.st .node)), (.sl tI), tI, (.sl (.st .key)), (.sl tB), tI, tI], [⟨128069, .val, none⟩, ⟨128068, .rd, none⟩, ⟨128067, .rd, none⟩, ⟨128066, .rd, none⟩, ⟨128065, .rd, none⟩, ⟨128064, .rd, none⟩, ⟨256, .val, (some (.one .leaf))⟩, ⟨384064, .dead, (some (.bx 6))⟩, ⟨64, (.ptr 1 0), (some (.one .leaf))⟩, ⟨768, .own, (some (.one .leaf))⟩, ⟨192, .own, (some (.one .leaf))⟩, ⟨896, .val, (some (.one .leaf))⟩, ⟨832, .val, (some (.one .leaf))⟩]⟩]
theorem G133 : ∀ K x, denF K Tryz.prog (tab K) (ents.take 133) h133 ⟨72, [.v (.agg 6) [.rd, .rd, .rd, .rd, .rd, .val]], (.one .leaf), [.val]⟩ [(.sl tI), (.sl (.st .node)), (.sl (.st .age)), (.sl (.st .cell)), (.sl (.st .vol)), tI] [tB] x = impl_keysFit K x.1 x.2.1 x.2.2.1 x.2.2.2.1 x.2.2.2.2.1 x.2.2.2.2.2.1 := fun K x => by kernel_rfl
def h134 : List Hint := [⟨9, [128069, 128068, 128067, 128066, 128065, 128064, 1792, 1920, 1856], [tI, (.sl (.st .vol)), (.sl (.st .cell)), (.sl (.st .age)), (.sl (.st .node)), (.sl tI), (.sl (.st .age)), tI, tI], [⟨128069, .val, none⟩, ⟨128068, .rd, none⟩, ⟨128067, .rd, none⟩, ⟨128066, .rd, none⟩, ⟨128065, .rd, none⟩, ⟨128064, .rd, none⟩, ⟨384064, .dead, (some (.bx 6))⟩, ⟨64, (.ptr 1 0), (some (.one .leaf))⟩, ⟨1792, .rd, (some (.one .leaf))⟩, ⟨1920, .val, (some (.one .leaf))⟩, ⟨1856, .val, (some (.one .leaf))⟩]⟩]
theorem G134 : ∀ K x, denF K Tryz.prog (tab K) (ents.take 134) h134 ⟨29, [.v (.agg 6) [.rd, .rd, .rd, .rd, .rd, .val]], (.one .leaf), [.val]⟩ [(.sl tI), (.sl (.st .node)), (.sl (.st .age)), (.sl (.st .cell)), (.sl (.st .vol)), tI] [tB] x = impl_PoolOk K x.1 x.2.1 x.2.2.1 x.2.2.2.1 x.2.2.2.2.1 x.2.2.2.2.2.1 := fun K x => by kernel_rfl
def h135 : List Hint := []
theorem G135 : ∀ K x, denF K Tryz.prog (tab K) (ents.take 135) h135 ⟨46, [.v (.agg 6) [.rd, .rd, .rd, .rd, .rd, .val], .v .leaf [.val], .v .leaf [.val], .v .leaf [.val]], (.tup [.leaf, .leaf]), [.val, .val]⟩ [(.sl tI), (.sl (.st .node)), (.sl (.st .age)), (.sl (.st .cell)), (.sl (.st .vol)), tI, tS, tI, tB] [tI, tI] x = impl_blockCode K x.1 x.2.1 x.2.2.1 x.2.2.2.1 x.2.2.2.2.1 x.2.2.2.2.2.1 x.2.2.2.2.2.2.1 x.2.2.2.2.2.2.2.1 x.2.2.2.2.2.2.2.2.1 := fun K x => by kernel_rfl
def h136 : List Hint := [⟨18, [320], [(.sl tI)], [⟨320, .own, (some (.one .leaf))⟩]⟩, ⟨7, [320, 64, 0, 704, 640], [(.sl tI), tI, (.sl (.st .age)), tI, tI], [⟨320, .own, (some (.one .leaf))⟩, ⟨64, .val, (some (.one .leaf))⟩, ⟨0, .rd, (some (.one .leaf))⟩, ⟨704, .val, (some (.one .leaf))⟩, ⟨640, .val, (some (.one .leaf))⟩]⟩]
theorem G136 : ∀ K x, denF K Tryz.prog (tab K) (ents.take 136) h136 ⟨163, [.v .leaf [.rd], .v .leaf [.val]], (.one .leaf), [.own]⟩ [(.sl (.st .age)), tI] [(.sl tI)] x = impl_PathOf K x.1 x.2.1 := fun K x => by kernel_rfl
def h137 : List Hint := [⟨14, [768, 320, 640, 64, 704], [tI, (.sl (.st .key)), (.sl (.st .key)), tI, tI], [⟨768, .val, (some (.one .leaf))⟩, ⟨320, .own, (some (.one .leaf))⟩, ⟨640, .own, (some (.one .leaf))⟩, ⟨64, .val, (some (.one .leaf))⟩, ⟨704, .val, (some (.one .leaf))⟩]⟩, ⟨7, [320, 640, 64, 768, 704], [(.sl (.st .key)), (.sl (.st .key)), tI, tI, tI], [⟨320, .own, (some (.one .leaf))⟩, ⟨640, .own, (some (.one .leaf))⟩, ⟨64, .val, (some (.one .leaf))⟩, ⟨768, .val, (some (.one .leaf))⟩, ⟨704, .val, (some (.one .leaf))⟩]⟩]
theorem G137 : ∀ K x, denF K Tryz.prog (tab K) (ents.take 137) h137 ⟨205, [.v (.agg 2) [.rd, .rd], .v .leaf [.val]], (.one .leaf), [.own]⟩ [(.sl tI), (.sl (.st .node)), tI] [(.sl (.st .key))] x = impl_KeysOf K x.1 x.2.1 x.2.2.1 := fun K x => by kernel_rfl
def h138 : List Hint := [⟨5, [64, 0, 512, 448], [tI, (.sl tI), tI, tI], [⟨64, .val, (some (.one .leaf))⟩, ⟨0, .rd, (some (.one .leaf))⟩, ⟨512, .val, (some (.one .leaf))⟩, ⟨448, .val, (some (.one .leaf))⟩]⟩]
theorem G138 : ∀ K x, denF K Tryz.prog (tab K) (ents.take 138) h138 ⟨223, [.v .leaf [.rd], .v .leaf [.val]], (.one .leaf), [.val]⟩ [(.sl tI), tI] [tI] x = slices_Index__int_int K x.1 x.2.1 := fun K x => by kernel_rfl
def h139 : List Hint := []
theorem G139 : ∀ K x, denF K Tryz.prog (tab K) (ents.take 139) h139 ⟨206, [.v .leaf [.rd], .v .leaf [.val]], (.one .leaf), [.val]⟩ [(.sl tI), tI] [tB] x = slices_Contains__int_int K x.1 x.2.1 := fun K x => by kernel_rfl
def h140 : List Hint := [⟨14, [128388, 128387, 128386, 128385, 128384, 128516, 128515, 128514, 128513, 128512, 1088, 576, 960, 128, 1024], [tI, tI, tI, tI, tI, tI, tI, tI, tI, tI, tI, tB, (.sl (.st .key)), (.sl tI), tI], [⟨128388, .val, none⟩, ⟨128387, .val, none⟩, ⟨128386, .val, none⟩, ⟨128385, .val, none⟩, ⟨128384, .val, none⟩, ⟨128516, .val, none⟩, ⟨128515, .val, none⟩, ⟨128514, .val, none⟩, ⟨128513, .val, none⟩, ⟨128512, .val, none⟩, ⟨1088, .val, (some (.one .leaf))⟩, ⟨384384, .dead, (some (.bx 5))⟩, ⟨384, (.ptr 6 0), (some (.one .leaf))⟩, ⟨576, .val, (some (.one .leaf))⟩, ⟨384512, .dead, (some (.bx 5))⟩, ⟨512, (.ptr 8 0), (some (.one .leaf))⟩, ⟨960, .own, (some (.one .leaf))⟩, ⟨128, .rd, (some (.one .leaf))⟩, ⟨1024, .val, (some (.one .leaf))⟩]⟩, ⟨7, [128388, 128387, 128386, 128385, 128384, 128516, 128515, 128514, 128513, 128512, 576, 960, 128, 1088, 1024], [tI, tI, tI, tI, tI, tI, tI, tI, tI, tI, tB, (.sl (.st .key)), (.sl tI), tI, tI], [⟨128388, .val, none⟩, ⟨128387, .val, none⟩, ⟨128386, .val, none⟩, ⟨128385, .val, none⟩, ⟨128384, .val, none⟩, ⟨128516, .val, none⟩, ⟨128515, .val, none⟩, ⟨128514, .val, none⟩, ⟨128513, .val, none⟩, ⟨128512, .val, none⟩, ⟨384384, .dead, (some (.bx 5))⟩, ⟨384, (.ptr 6 0), (some (.one .leaf))⟩, ⟨576, .val, (some (.one .leaf))⟩, ⟨384512, .dead, (some (.bx 5))⟩, ⟨512, (.ptr 8 0), (some (.one .leaf))⟩, ⟨960, .own, (some (.one .leaf))⟩, ⟨128, .rd, (some (.one .leaf))⟩, ⟨1088, .val, (some (.one .leaf))⟩, ⟨1024, .val, (some (.one .leaf))⟩]⟩]
theorem G140 : ∀ K x, denF K Tryz.prog (tab K) (ents.take 140) h140 ⟨162, [.v (.agg 2) [.rd, .rd], .v .leaf [.val], .v .leaf [.rd]], (.tup [(.agg 5), .leaf]), [.val, .val, .val, .val, .val, .val]⟩ [(.sl tI), (.sl (.st .node)), tI, (.sl tI)] [tI, tI, tI, tI, tI, tB] x = impl_seenOn K x.1 x.2.1 x.2.2.1 x.2.2.2.1 := fun K x => by kernel_rfl
def h141 : List Hint := []
theorem G141 : ∀ K x, denF K Tryz.prog (tab K) (ents.take 141) h141 ⟨102, [.v (.agg 2) [.rd, .rd], .v .leaf [.rd], .v .leaf [.val], .v .leaf [.val]], (.tup [(.agg 5), .leaf]), [.val, .val, .val, .val, .val, .val]⟩ [(.sl tI), (.sl (.st .node)), (.sl (.st .age)), tI, tI] [tI, tI, tI, tI, tI, tB] x = impl_Seen K x.1 x.2.1 x.2.2.1 x.2.2.2.1 x.2.2.2.2.1 := fun K x => by kernel_rfl
def h142 : List Hint := []
theorem G142 : ∀ K x, denF K Tryz.prog (tab K) (ents.take 142) h142 ⟨47, [.v (.agg 6) [.rd, .rd, .rd, .rd, .rd, .val], .v .leaf [.val], .v .leaf [.val]], (.one .leaf), [.val]⟩ [(.sl tI), (.sl (.st .node)), (.sl (.st .age)), (.sl (.st .cell)), (.sl (.st .vol)), tI, tI, tI] [tI] x = impl_BlockOf K x.1 x.2.1 x.2.2.1 x.2.2.2.1 x.2.2.2.2.1 x.2.2.2.2.2.1 x.2.2.2.2.2.2.1 x.2.2.2.2.2.2.2.1 := fun K x => by kernel_rfl
def h143 : List Hint := []
theorem G143 : ∀ K x, denF K Tryz.prog (tab K) (ents.take 143) h143 ⟨10, [.v (.agg 6) [.rd, .rd, .rd, .rd, .rd, .val], .v .leaf [.val], .v .leaf [.val]], (.tup [.leaf, .leaf]), [.val, .val]⟩ [(.sl tI), (.sl (.st .node)), (.sl (.st .age)), (.sl (.st .cell)), (.sl (.st .vol)), tI, tS, tI] [tI, tI] x = impl_Read K x.1 x.2.1 x.2.2.1 x.2.2.2.1 x.2.2.2.2.1 x.2.2.2.2.2.1 x.2.2.2.2.2.2.1 x.2.2.2.2.2.2.2.1 := fun K x => by kernel_rfl
def h144 : List Hint := []
theorem G144 : ∀ K x, denF K Tryz.prog (tab K) (ents.take 144) h144 ⟨11, [.v .leaf [.rd], .v .leaf [.val]], (.one .leaf), [.val]⟩ [(.sl tU), tI] [tI] x = laws_at K x.1 x.2.1 := fun K x => by kernel_rfl
def h145 : List Hint := []
theorem G145 : ∀ K x, denF K Tryz.prog (tab K) (ents.take 145) h145 ⟨164, [.v .leaf [.rd]], (.one .leaf), [.own]⟩ [(.sl tI)] [(.sl tI)] x = impl_copyInts K x.1 := fun K x => by kernel_rfl
def h146 : List Hint := [⟨7, [128128, 128192, 512, 640, 576], [(.sl (.sl (.st .key))), (.sl (.sl (.st .key))), (.sl (.sl (.st .key))), tI, tI], [⟨128128, .own, none⟩, ⟨128192, .own, none⟩, ⟨384128, .dead, (some (.bx 1))⟩, ⟨128, (.ptr 2 0), (some (.one .leaf))⟩, ⟨384192, .dead, (some (.bx 1))⟩, ⟨192, (.ptr 3 0), (some (.one .leaf))⟩, ⟨512, .rd, (some (.one .leaf))⟩, ⟨640, .val, (some (.one .leaf))⟩, ⟨576, .val, (some (.one .leaf))⟩]⟩]
theorem G146 : ∀ K x, denF K Tryz.prog (tab K) (ents.take 146) h146 ⟨165, [.v (.agg 1) [.rd]], (.one (.agg 1)), [.own]⟩ [(.sl (.sl (.st .key)))] [(.sl (.sl (.st .key)))] x = impl_copyNode K x.1 := fun K x => by kernel_rfl
def h147 : List Hint := [⟨7, [128129, 128128, 128193, 128192, 704, 832, 768], [(.sl (.st .node)), (.sl tI), (.sl (.st .node)), (.sl tI), (.sl (.st .node)), tI, tI], [⟨128129, .own, none⟩, ⟨128128, .own, none⟩, ⟨128193, .own, none⟩, ⟨128192, .own, none⟩, ⟨384128, .dead, (some (.bx 2))⟩, ⟨128, (.ptr 2 0), (some (.one .leaf))⟩, ⟨384192, .dead, (some (.bx 2))⟩, ⟨192, (.ptr 3 0), (some (.one .leaf))⟩, ⟨704, .rd, (some (.one .leaf))⟩, ⟨832, .val, (some (.one .leaf))⟩, ⟨768, .val, (some (.one .leaf))⟩]⟩]
theorem G147 : ∀ K x, denF K Tryz.prog (tab K) (ents.take 147) h147 ⟨104, [.v (.agg 2) [.rd, .rd]], (.one (.agg 2)), [.own, .own]⟩ [(.sl tI), (.sl (.st .node))] [(.sl tI), (.sl (.st .node))] x = impl_copyTree K x.1 x.2.1 := fun K x => by kernel_rfl
def h148 : List Hint := []
theorem G148 : ∀ K x, denF K Tryz.prog (tab K) (ents.take 148) h148 ⟨105, [.v .leaf [.rd]], (.one .leaf), [.own]⟩ [(.sl (.st .age))] [(.sl (.st .age))] x = impl_copyAges K x.1 := fun K x => by kernel_rfl
def h149 : List Hint := []
theorem G149 : ∀ K x, denF K Tryz.prog (tab K) (ents.take 149) h149 ⟨106, [.v .leaf [.rd]], (.one .leaf), [.own]⟩ [(.sl (.st .cell))] [(.sl (.st .cell))] x = impl_copyCells K x.1 := fun K x => by kernel_rfl
def h150 : List Hint := []
theorem G150 : ∀ K x, denF K Tryz.prog (tab K) (ents.take 150) h150 ⟨49, [.v (.agg 6) [.rd, .rd, .rd, .rd, .rd, .val]], (.one (.agg 6)), [.own, .own, .own, .own, .own, .val]⟩ [(.sl tI), (.sl (.st .node)), (.sl (.st .age)), (.sl (.st .cell)), (.sl (.st .vol)), tI] [(.sl tI), (.sl (.st .node)), (.sl (.st .age)), (.sl (.st .cell)), (.sl (.st .vol)), tI] x = impl_copyPool K x.1 x.2.1 x.2.2.1 x.2.2.2.1 x.2.2.2.2.1 x.2.2.2.2.2.1 := fun K x => by kernel_rfl
def h151 : List Hint := [⟨5, [320, 448, 384], [(.sl (.st .cell)), tI, tI], [⟨320, .rd, (some (.one .leaf))⟩, ⟨448, .val, (some (.one .leaf))⟩, ⟨384, .val, (some (.one .leaf))⟩]⟩]
theorem G151 : ∀ K x, denF K Tryz.prog (tab K) (ents.take 151) h151 ⟨80, [.v .leaf [.rd]], (.one .leaf), [.val]⟩ [(.sl (.st .cell))] [tI] x = impl_freeAt K x.1 := fun K x => by kernel_rfl
def h152 : List Hint := []
theorem G152 : ∀ K x, denF K Tryz.prog (tab K) (ents.take 152) h152 ⟨50, [.v .leaf [.rd], .v .leaf [.val]], (.tup [.leaf, .leaf, .leaf]), [.own, .val, .val]⟩ [(.sl (.st .cell)), tI] [(.sl (.st .cell)), tI, tB] x = impl_TakeCell K x.1 x.2.1 := fun K x => by kernel_rfl
def h153 : List Hint := [⟨5, [128193, 128192, 64, 128, 448], [(.sl (.st .node)), (.sl tI), tI, tI, tI], [⟨128193, .rd, none⟩, ⟨128192, .rd, none⟩, ⟨384192, .dead, (some (.bx 2))⟩, ⟨192, (.ptr 3 0), (some (.one .leaf))⟩, ⟨64, .val, (some (.one .leaf))⟩, ⟨128, .val, (some (.one .leaf))⟩, ⟨448, .val, (some (.one .leaf))⟩]⟩]
theorem G153 : ∀ K x, denF K Tryz.prog (tab K) (ents.take 153) h153 ⟨130, [.v (.agg 2) [.rd, .rd], .v .leaf [.val], .v .leaf [.val]], (.one .leaf), [.val]⟩ [(.sl tI), (.sl (.st .node)), tI, tI] [tI] x = impl_WhereIn K x.1 x.2.1 x.2.2.1 x.2.2.2.1 := fun K x => by kernel_rfl
def h154 : List Hint := [⟨5, [128388, 128387, 128386, 128385, 128384, 640, 64, 128, 768, 704], [tI, tI, tI, tI, tI, (.sl (.st .key)), tI, tI, tI, tI], [⟨128388, .val, none⟩, ⟨128387, .val, none⟩, ⟨128386, .val, none⟩, ⟨128385, .val, none⟩, ⟨128384, .val, none⟩, ⟨384384, .dead, (some (.bx 5))⟩, ⟨384, (.ptr 6 0), (some (.one .leaf))⟩, ⟨640, .rd, (some (.one .leaf))⟩, ⟨64, .val, (some (.one .leaf))⟩, ⟨128, .val, (some (.one .leaf))⟩, ⟨768, .val, (some (.one .leaf))⟩, ⟨704, .val, (some (.one .leaf))⟩]⟩]
theorem G154 : ∀ K x, denF K Tryz.prog (tab K) (ents.take 154) h154 ⟨184, [.v .leaf [.rd], .v .leaf [.val], .v .leaf [.val]], (.tup [(.agg 5), .leaf]), [.val, .val, .val, .val, .val, .val]⟩ [(.sl (.st .key)), tI, tI] [tI, tI, tI, tI, tI, tB] x = impl_SetAt K x.1 x.2.1 x.2.2.1 := fun K x => by kernel_rfl
def h155 : List Hint := [⟨16, [128388, 128387, 128386, 128385, 128384], [tI, tI, tI, tI, tI], [⟨128388, .val, none⟩, ⟨128387, .val, none⟩, ⟨128386, .val, none⟩, ⟨128385, .val, none⟩, ⟨128384, .val, none⟩, ⟨384384, .dead, (some (.bx 5))⟩, ⟨384, (.ptr 6 0), (some (.one .leaf))⟩]⟩, ⟨5, [128388, 128387, 128386, 128385, 128384, 128192, 64, 128, 512], [tI, tI, tI, tI, tI, (.sl (.sl (.st .key))), tI, tI, tI], [⟨128388, .val, none⟩, ⟨128387, .val, none⟩, ⟨128386, .val, none⟩, ⟨128385, .val, none⟩, ⟨128384, .val, none⟩, ⟨128192, .rd, none⟩, ⟨384384, .dead, (some (.bx 5))⟩, ⟨384, (.ptr 6 0), (some (.one .leaf))⟩, ⟨384192, .dead, (some (.bx 1))⟩, ⟨192, (.ptr 3 0), (some (.one .leaf))⟩, ⟨64, .val, (some (.one .leaf))⟩, ⟨128, .val, (some (.one .leaf))⟩, ⟨512, .val, (some (.one .leaf))⟩]⟩]
theorem G155 : ∀ K x, denF K Tryz.prog (tab K) (ents.take 155) h155 ⟨166, [.v (.agg 1) [.rd], .v .leaf [.val], .v .leaf [.val]], (.tup [(.agg 5), .leaf]), [.val, .val, .val, .val, .val, .val]⟩ [(.sl (.sl (.st .key))), tI, tI] [tI, tI, tI, tI, tI, tB] x = impl_NodeAt K x.1 x.2.1 x.2.2.1 := fun K x => by kernel_rfl
def h156 : List Hint := []
theorem G156 : ∀ K x, denF K Tryz.prog (tab K) (ents.take 156) h156 ⟨107, [.v (.agg 2) [.rd, .rd], .v .leaf [.val], .v .leaf [.val]], (.tup [(.agg 5), .leaf]), [.val, .val, .val, .val, .val, .val]⟩ [(.sl tI), (.sl (.st .node)), tI, tI] [tI, tI, tI, tI, tI, tB] x = impl_TreeAt K x.1 x.2.1 x.2.2.1 x.2.2.2.1 := fun K x => by kernel_rfl
def h157 : List Hint := []
theorem G157 : ∀ K x, denF K Tryz.prog (tab K) (ents.take 157) h157 ⟨132, [.v (.agg 1) [.rd], .v (.agg 5) [.val, .val, .val, .val, .val]], (.one .leaf), [.own]⟩ [(.sl (.sl (.st .key))), tI, tI, tI, tI, tI] [(.sl (.st .key))] x = impl_keysWith K x.1 x.2.1 x.2.2.1 x.2.2.2.1 x.2.2.2.2.1 x.2.2.2.2.2.1 := fun K x => by kernel_rfl
def h158 : List Hint := []
theorem G158 : ∀ K x, denF K Tryz.prog (tab K) (ents.take 158) h158 ⟨135, [.v .leaf [.rd]], (.one (.agg 1)), [.own]⟩ [(.sl (.st .key))] [(.sl (.sl (.st .key)))] x = impl_NodeNew K x.1 := fun K x => by kernel_rfl
def h159 : List Hint := [⟨20, [128384, 128196, 128195, 128194, 128193, 128192, 128128, 128256], [(.sl (.sl (.st .key))), tI, tI, tI, tI, tI, (.sl (.sl (.st .key))), (.sl (.sl (.st .key)))], [⟨128384, .own, none⟩, ⟨128196, .val, none⟩, ⟨128195, .val, none⟩, ⟨128194, .val, none⟩, ⟨128193, .val, none⟩, ⟨128192, .val, none⟩, ⟨128128, .rd, none⟩, ⟨128256, .own, none⟩, ⟨384384, .dead, (some (.bx 1))⟩, ⟨384, (.ptr 6 0), (some (.one .leaf))⟩, ⟨384192, .dead, (some (.bx 5))⟩, ⟨192, (.ptr 3 0), (some (.one .leaf))⟩, ⟨384128, .dead, (some (.bx 1))⟩, ⟨128, (.ptr 2 0), (some (.one .leaf))⟩, ⟨384256, .dead, (some (.bx 1))⟩, ⟨256, (.ptr 4 0), (some (.one .leaf))⟩]⟩, ⟨14, [128384, 128196, 128195, 128194, 128193, 128192, 128128, 128256, 512, 448], [(.sl (.sl (.st .key))), tI, tI, tI, tI, tI, (.sl (.sl (.st .key))), (.sl (.sl (.st .key))), tB, tI], [⟨128384, .own, none⟩, ⟨128196, .val, none⟩, ⟨128195, .val, none⟩, ⟨128194, .val, none⟩, ⟨128193, .val, none⟩, ⟨128192, .val, none⟩, ⟨128128, .rd, none⟩, ⟨128256, .own, none⟩, ⟨512, .val, (some (.one .leaf))⟩, ⟨448, .val, (some (.one .leaf))⟩, ⟨384384, .dead, (some (.bx 1))⟩, ⟨384, (.ptr 6 0), (some (.one .leaf))⟩, ⟨384192, .dead, (some (.bx 5))⟩, ⟨192, (.ptr 3 0), (some (.one .leaf))⟩, ⟨384128, .dead, (some (.bx 1))⟩, ⟨128, (.ptr 2 0), (some (.one .leaf))⟩, ⟨384256, .dead, (some (.bx 1))⟩, ⟨256, (.ptr 4 0), (some (.one .leaf))⟩]⟩]
theorem G159 : ∀ K x, denF K Tryz.prog (tab K) (ents.take 159) h159 ⟨131, [.v (.agg 1) [.rd], .v (.agg 5) [.val, .val, .val, .val, .val]], (.tup [(.agg 1), .leaf]), [.own, .val]⟩ [(.sl (.sl (.st .key))), tI, tI, tI, tI, tI] [(.sl (.sl (.st .key))), tB] x = impl_NodePut K x.1 x.2.1 x.2.2.1 x.2.2.2.1 x.2.2.2.2.1 x.2.2.2.2.2.1 := fun K x => by kernel_rfl
def h160 : List Hint := []
theorem G160 : ∀ K x, denF K Tryz.prog (tab K) (ents.take 160) h160 ⟨133, [.v (.agg 2) [.rd, .rd], .v .leaf [.val], .v .leaf [.val], .v .leaf [.rd], .v .leaf [.rd]], (.one (.agg 2)), [.own, .own]⟩ [(.sl tI), (.sl (.st .node)), tI, tI, (.sl tI), (.sl (.st .node))] [(.sl tI), (.sl (.st .node))] x = impl_replaced K x.1 x.2.1 x.2.2.1 x.2.2.2.1 x.2.2.2.2.1 x.2.2.2.2.2.1 := fun K x => by kernel_rfl
def h161 : List Hint := [⟨6, [128129, 128128, 128065, 128064, 192], [(.sl (.st .node)), (.sl tI), (.sl (.st .node)), (.sl tI), tI], [⟨128129, .own, none⟩, ⟨128128, .own, none⟩, ⟨128065, .own, none⟩, ⟨128064, .own, none⟩, ⟨192, .val, (some (.one .leaf))⟩, ⟨384128, .dead, (some (.bx 2))⟩, ⟨128, (.ptr 2 0), (some (.one .leaf))⟩, ⟨384064, .dead, (some (.bx 2))⟩, ⟨64, (.ptr 1 0), (some (.one .leaf))⟩]⟩, ⟨5, [128129, 128128, 128065, 128064, 192], [(.sl (.st .node)), (.sl tI), (.sl (.st .node)), (.sl tI), tI], [⟨128129, .own, none⟩, ⟨128128, .own, none⟩, ⟨128065, .own, none⟩, ⟨128064, .own, none⟩, ⟨384128, .dead, (some (.bx 2))⟩, ⟨128, (.ptr 2 0), (some (.one .leaf))⟩, ⟨384064, .dead, (some (.bx 2))⟩, ⟨64, (.ptr 1 0), (some (.one .leaf))⟩, ⟨192, .val, (some (.one .leaf))⟩]⟩]
theorem G161 : ∀ K x, denF K Tryz.prog (tab K) (ents.take 161) h161 ⟨136, [.v (.agg 2) [.own, .own]], (.one (.agg 2)), [.own, .own]⟩ [(.sl tI), (.sl (.st .node))] [(.sl tI), (.sl (.st .node))] x = impl_merged_o K x.1 x.2.1 := fun K x => by kernel_rfl
def h162 : List Hint := [⟨28, [128129, 128128, 128449, 128448, 128257, 128256], [(.sl (.st .node)), (.sl tI), (.sl (.st .node)), (.sl tI), (.sl (.st .node)), (.sl tI)], [⟨128129, .rd, none⟩, ⟨128128, .rd, none⟩, ⟨128449, .own, none⟩, ⟨128448, .own, none⟩, ⟨128257, .own, none⟩, ⟨128256, .own, none⟩, ⟨384128, .dead, (some (.bx 2))⟩, ⟨128, (.ptr 2 0), (some (.one .leaf))⟩, ⟨384448, .dead, (some (.bx 2))⟩, ⟨448, (.ptr 7 0), (some (.one .leaf))⟩, ⟨384256, .dead, (some (.bx 2))⟩, ⟨256, (.ptr 4 0), (some (.one .leaf))⟩]⟩]
theorem G162 : ∀ K x, denF K Tryz.prog (tab K) (ents.take 162) h162 ⟨81, [.v (.agg 2) [.rd, .rd], .v (.agg 5) [.val, .val, .val, .val, .val]], (.tup [(.agg 2), .leaf]), [.own, .own, .val]⟩ [(.sl tI), (.sl (.st .node)), tI, tI, tI, tI, tI] [(.sl tI), (.sl (.st .node)), tB] x = impl_TreePut K x.1 x.2.1 x.2.2.1 x.2.2.2.1 x.2.2.2.2.1 x.2.2.2.2.2.1 x.2.2.2.2.2.2.1 := fun K x => by kernel_rfl
def h163 : List Hint := []
theorem G163 : ∀ K x, denF K Tryz.prog (tab K) (ents.take 163) h163 ⟨82, [.v .leaf [.rd], .v .leaf [.val]], (.one .leaf), [.own]⟩ [(.sl (.st .cell)), tI] [(.sl (.st .cell))] x = impl_FreeCell K x.1 x.2.1 := fun K x => by kernel_rfl
def h164 : List Hint := [⟨12, [512, 128000, 128001, 256002, 128003, 256004, 256005], [tB, (.sl tI), (.sl (.st .node)), (.sl (.st .age)), (.sl (.st .cell)), (.sl (.st .vol)), tI], [⟨512, .val, (some (.one .leaf))⟩, ⟨128000, .own, none⟩, ⟨128001, .own, none⟩, ⟨256002, .rd, none⟩, ⟨128002, (.al 256002), none⟩, ⟨128003, .own, none⟩, ⟨256004, .rd, none⟩, ⟨128004, (.al 256004), none⟩, ⟨256005, .val, none⟩, ⟨128005, (.al 256005), none⟩, ⟨384000, .dead, (some (.bx 6))⟩]⟩]
theorem G164 : ∀ K x, denF K Tryz.prog (tab K) (ents.take 164) h164 ⟨51, [.p [.own, .own, .rd, .own, .rd, .val] [.own, .own, .same, .own, .same, .same], .v (.agg 5) [.val, .val, .val, .val, .val]], (.one .leaf), [.val]⟩ [(.sl tI), (.sl (.st .node)), (.sl (.st .age)), (.sl (.st .cell)), (.sl (.st .vol)), tI, tI, tI, tI, tI, tI] [tB, (.sl tI), (.sl (.st .node)), (.sl (.st .cell))] x = impl_Pool_putKey K x.1 x.2.1 x.2.2.1 x.2.2.2.1 x.2.2.2.2.1 x.2.2.2.2.2.1 x.2.2.2.2.2.2.1 x.2.2.2.2.2.2.2.1 x.2.2.2.2.2.2.2.2.1 x.2.2.2.2.2.2.2.2.2.1 x.2.2.2.2.2.2.2.2.2.2.1 := fun K x => by kernel_rfl
def h165 : List Hint := []
theorem G165 : ∀ K x, denF K Tryz.prog (tab K) (ents.take 165) h165 ⟨52, [.v (.agg 6) [.rd, .rd, .rd, .rd, .rd, .val], .v (.agg 6) [.own, .own, .own, .own, .own, .val], .v .leaf [.val]], (.tup [(.agg 6), .leaf]), [.own, .own, .own, .own, .own, .val, .val]⟩ [(.sl tI), (.sl (.st .node)), (.sl (.st .age)), (.sl (.st .cell)), (.sl (.st .vol)), tI, (.sl tI), (.sl (.st .node)), (.sl (.st .age)), (.sl (.st .cell)), (.sl (.st .vol)), tI, tB] [(.sl tI), (.sl (.st .node)), (.sl (.st .age)), (.sl (.st .cell)), (.sl (.st .vol)), tI, tI] x = impl_settled_ro K x.1 x.2.1 x.2.2.1 x.2.2.2.1 x.2.2.2.2.1 x.2.2.2.2.2.1 x.2.2.2.2.2.2.1 x.2.2.2.2.2.2.2.1 x.2.2.2.2.2.2.2.2.1 x.2.2.2.2.2.2.2.2.2.1 x.2.2.2.2.2.2.2.2.2.2.1 x.2.2.2.2.2.2.2.2.2.2.2.1 x.2.2.2.2.2.2.2.2.2.2.2.2.1 := fun K x => by kernel_rfl
def h166 : List Hint := [⟨8, [128261, 128260, 128259, 128258, 128257, 128256, 128517, 128516, 128515, 128514, 128513, 128512, 704, 192, 128, 640], [tI, (.sl (.st .vol)), (.sl (.st .cell)), (.sl (.st .age)), (.sl (.st .node)), (.sl tI), tI, (.sl (.st .vol)), (.sl (.st .cell)), (.sl (.st .age)), (.sl (.st .node)), (.sl tI), tI, tI, tI, tI], [⟨128261, .val, none⟩, ⟨128260, .rd, none⟩, ⟨128259, .rd, none⟩, ⟨128258, .rd, none⟩, ⟨128257, .rd, none⟩, ⟨128256, .rd, none⟩, ⟨128517, .val, none⟩, ⟨128516, .own, none⟩, ⟨128515, .own, none⟩, ⟨128514, .own, none⟩, ⟨128513, .own, none⟩, ⟨128512, .own, none⟩, ⟨704, .val, (some (.one .leaf))⟩, ⟨192, .val, (some (.one .leaf))⟩, ⟨128, .val, (some (.one .leaf))⟩, ⟨640, .val, (some (.one .leaf))⟩, ⟨384256, .dead, (some (.bx 6))⟩, ⟨256, (.ptr 4 0), (some (.one .leaf))⟩, ⟨384512, .dead, (some (.bx 6))⟩, ⟨512, (.ptr 8 0), (some (.one .leaf))⟩]⟩]
theorem G166 : ∀ K x, denF K Tryz.prog (tab K) (ents.take 166) h166 ⟨12, [.v (.agg 6) [.rd, .rd, .rd, .rd, .rd, .val], .v .leaf [.val], .v .leaf [.val], .v .leaf [.val]], (.tup [(.agg 6), .leaf]), [.own, .own, .own, .own, .own, .val, .val]⟩ [(.sl tI), (.sl (.st .node)), (.sl (.st .age)), (.sl (.st .cell)), (.sl (.st .vol)), tI, tS, tI, tI] [(.sl tI), (.sl (.st .node)), (.sl (.st .age)), (.sl (.st .cell)), (.sl (.st .vol)), tI, tI] x = impl_Write K x.1 x.2.1 x.2.2.1 x.2.2.2.1 x.2.2.2.2.1 x.2.2.2.2.2.1 x.2.2.2.2.2.2.1 x.2.2.2.2.2.2.2.1 x.2.2.2.2.2.2.2.2.1 := fun K x => by kernel_rfl
def h167 : List Hint := [⟨9, [0, 64, 320], [(.sl tI), (.sl tI), tI], [⟨0, .rd, (some (.one .leaf))⟩, ⟨64, .rd, (some (.one .leaf))⟩, ⟨320, .val, (some (.one .leaf))⟩]⟩]
theorem G167 : ∀ K x, denF K Tryz.prog (tab K) (ents.take 167) h167 ⟨41, [.v .leaf [.rd], .v .leaf [.rd]], (.one .leaf), [.val]⟩ [(.sl tI), (.sl tI)] [tB] x = laws_sameInts K x.1 x.2.1 := fun K x => by kernel_rfl
def h168 : List Hint := [⟨9, [0, 64, 320], [(.sl (.st .key)), (.sl (.st .key)), tI], [⟨0, .rd, (some (.one .leaf))⟩, ⟨64, .rd, (some (.one .leaf))⟩, ⟨320, .val, (some (.one .leaf))⟩]⟩]
theorem G168 : ∀ K x, denF K Tryz.prog (tab K) (ents.take 168) h168 ⟨167, [.v .leaf [.rd], .v .leaf [.rd]], (.one .leaf), [.val]⟩ [(.sl (.st .key)), (.sl (.st .key))] [tB] x = laws_sameKeys K x.1 x.2.1 := fun K x => by kernel_rfl
def h169 : List Hint := [⟨9, [128128, 128192, 320], [(.sl (.sl (.st .key))), (.sl (.sl (.st .key))), tI], [⟨128128, .rd, none⟩, ⟨128192, .rd, none⟩, ⟨384128, .dead, (some (.bx 1))⟩, ⟨128, (.ptr 2 0), (some (.one .leaf))⟩, ⟨384192, .dead, (some (.bx 1))⟩, ⟨192, (.ptr 3 0), (some (.one .leaf))⟩, ⟨320, .val, (some (.one .leaf))⟩]⟩]
theorem G169 : ∀ K x, denF K Tryz.prog (tab K) (ents.take 169) h169 ⟨108, [.v (.agg 1) [.rd], .v (.agg 1) [.rd]], (.one .leaf), [.val]⟩ [(.sl (.sl (.st .key))), (.sl (.sl (.st .key)))] [tB] x = laws_sameNode K x.1 x.2.1 := fun K x => by kernel_rfl
def h170 : List Hint := [⟨9, [128129, 128128, 128193, 128192, 320], [(.sl (.st .node)), (.sl tI), (.sl (.st .node)), (.sl tI), tI], [⟨128129, .rd, none⟩, ⟨128128, .rd, none⟩, ⟨128193, .rd, none⟩, ⟨128192, .rd, none⟩, ⟨384128, .dead, (some (.bx 2))⟩, ⟨128, (.ptr 2 0), (some (.one .leaf))⟩, ⟨384192, .dead, (some (.bx 2))⟩, ⟨192, (.ptr 3 0), (some (.one .leaf))⟩, ⟨320, .val, (some (.one .leaf))⟩]⟩]
theorem G170 : ∀ K x, denF K Tryz.prog (tab K) (ents.take 170) h170 ⟨53, [.v (.agg 2) [.rd, .rd], .v (.agg 2) [.rd, .rd]], (.one .leaf), [.val]⟩ [(.sl tI), (.sl (.st .node)), (.sl tI), (.sl (.st .node))] [tB] x = laws_sameTree K x.1 x.2.1 x.2.2.1 x.2.2.2.1 := fun K x => by kernel_rfl
def h171 : List Hint := [⟨9, [0, 64, 320], [(.sl (.st .age)), (.sl (.st .age)), tI], [⟨0, .rd, (some (.one .leaf))⟩, ⟨64, .rd, (some (.one .leaf))⟩, ⟨320, .val, (some (.one .leaf))⟩]⟩]
theorem G171 : ∀ K x, denF K Tryz.prog (tab K) (ents.take 171) h171 ⟨54, [.v .leaf [.rd], .v .leaf [.rd]], (.one .leaf), [.val]⟩ [(.sl (.st .age)), (.sl (.st .age))] [tB] x = laws_sameAges K x.1 x.2.1 := fun K x => by kernel_rfl
def h172 : List Hint := [⟨9, [0, 64, 320], [(.sl (.st .cell)), (.sl (.st .cell)), tI], [⟨0, .rd, (some (.one .leaf))⟩, ⟨64, .rd, (some (.one .leaf))⟩, ⟨320, .val, (some (.one .leaf))⟩]⟩]
theorem G172 : ∀ K x, denF K Tryz.prog (tab K) (ents.take 172) h172 ⟨55, [.v .leaf [.rd], .v .leaf [.rd]], (.one .leaf), [.val]⟩ [(.sl (.st .cell)), (.sl (.st .cell))] [tB] x = laws_sameCells K x.1 x.2.1 := fun K x => by kernel_rfl
def h173 : List Hint := [⟨9, [128133, 128132, 128131, 128130, 128129, 128128, 128197, 128196, 128195, 128194, 128193, 128192, 320], [tI, (.sl (.st .vol)), (.sl (.st .cell)), (.sl (.st .age)), (.sl (.st .node)), (.sl tI), tI, (.sl (.st .vol)), (.sl (.st .cell)), (.sl (.st .age)), (.sl (.st .node)), (.sl tI), tI], [⟨128133, .val, none⟩, ⟨128132, .rd, none⟩, ⟨128131, .rd, none⟩, ⟨128130, .rd, none⟩, ⟨128129, .rd, none⟩, ⟨128128, .rd, none⟩, ⟨128197, .val, none⟩, ⟨128196, .rd, none⟩, ⟨128195, .rd, none⟩, ⟨128194, .rd, none⟩, ⟨128193, .rd, none⟩, ⟨128192, .rd, none⟩, ⟨384128, .dead, (some (.bx 6))⟩, ⟨128, (.ptr 2 0), (some (.one .leaf))⟩, ⟨384192, .dead, (some (.bx 6))⟩, ⟨192, (.ptr 3 0), (some (.one .leaf))⟩, ⟨320, .val, (some (.one .leaf))⟩]⟩]
theorem G173 : ∀ K x, denF K Tryz.prog (tab K) (ents.take 173) h173 ⟨13, [.v (.agg 6) [.rd, .rd, .rd, .rd, .rd, .val], .v (.agg 6) [.rd, .rd, .rd, .rd, .rd, .val]], (.one .leaf), [.val]⟩ [(.sl tI), (.sl (.st .node)), (.sl (.st .age)), (.sl (.st .cell)), (.sl (.st .vol)), tI, (.sl tI), (.sl (.st .node)), (.sl (.st .age)), (.sl (.st .cell)), (.sl (.st .vol)), tI] [tB] x = laws_samePool K x.1 x.2.1 x.2.2.1 x.2.2.2.1 x.2.2.2.2.1 x.2.2.2.2.2.1 x.2.2.2.2.2.2.1 x.2.2.2.2.2.2.2.1 x.2.2.2.2.2.2.2.2.1 x.2.2.2.2.2.2.2.2.2.1 x.2.2.2.2.2.2.2.2.2.2.1 x.2.2.2.2.2.2.2.2.2.2.2.1 := fun K x => by kernel_rfl
def h174 : List Hint := []
theorem G174 : ∀ K x, denF K Tryz.prog (tab K) (ents.take 174) h174 ⟨109, [.v (.agg 2) [.rd, .rd], .v .leaf [.rd], .v .leaf [.val], .v .leaf [.val]], (.tup [(.agg 5), .leaf]), [.val, .val, .val, .val, .val, .val]⟩ [(.sl tI), (.sl (.st .node)), (.sl (.st .age)), tI, tI] [tI, tI, tI, tI, tI, tB] x = impl_SeenAbove K x.1 x.2.1 x.2.2.1 x.2.2.2.1 x.2.2.2.2.1 := fun K x => by kernel_rfl
def h175 : List Hint := []
theorem G175 : ∀ K x, denF K Tryz.prog (tab K) (ents.take 175) h175 ⟨56, [.p [.own, .own, .rd, .own, .rd, .val] [.own, .own, .same, .own, .same, .same], .v .leaf [.val], .v .leaf [.val]], (.one .leaf), [.val]⟩ [(.sl tI), (.sl (.st .node)), (.sl (.st .age)), (.sl (.st .cell)), (.sl (.st .vol)), tI, tI, tI] [tB, (.sl tI), (.sl (.st .node)), (.sl (.st .cell))] x = impl_Pool_discard K x.1 x.2.1 x.2.2.1 x.2.2.2.1 x.2.2.2.2.1 x.2.2.2.2.2.1 x.2.2.2.2.2.2.1 x.2.2.2.2.2.2.2.1 := fun K x => by kernel_rfl
def h176 : List Hint := []
theorem G176 : ∀ K x, denF K Tryz.prog (tab K) (ents.take 176) h176 ⟨14, [.v (.agg 6) [.rd, .rd, .rd, .rd, .rd, .val], .v .leaf [.val], .v .leaf [.val]], (.tup [(.agg 6), .leaf]), [.own, .own, .own, .own, .own, .val, .val]⟩ [(.sl tI), (.sl (.st .node)), (.sl (.st .age)), (.sl (.st .cell)), (.sl (.st .vol)), tI, tS, tI] [(.sl tI), (.sl (.st .node)), (.sl (.st .age)), (.sl (.st .cell)), (.sl (.st .vol)), tI, tI] x = impl_Discard K x.1 x.2.1 x.2.2.1 x.2.2.2.1 x.2.2.2.2.1 x.2.2.2.2.2.1 x.2.2.2.2.2.2.1 x.2.2.2.2.2.2.2.1 := fun K x => by kernel_rfl
def h177 : List Hint := [⟨35, [128197, 128196, 128195, 128194, 128193, 128192, 128645, 128644, 128643, 128642, 128641, 128640, 128515, 128514, 128513, 128512, 448, 0, 576, 768, 832], [tI, (.sl (.st .vol)), (.sl (.st .cell)), (.sl (.st .age)), (.sl (.st .node)), (.sl tI), tI, (.sl (.st .vol)), (.sl (.st .cell)), (.sl (.st .age)), (.sl (.st .node)), (.sl tI), tB, tI, tI, tS, tI, (.sl tU), tI, tI, tI], [⟨128197, .val, none⟩, ⟨128196, .own, none⟩, ⟨128195, .own, none⟩, ⟨128194, .own, none⟩, ⟨128193, .own, none⟩, ⟨128192, .own, none⟩, ⟨128645, .val, none⟩, ⟨128644, .own, none⟩, ⟨128643, .own, none⟩, ⟨128642, .own, none⟩, ⟨128641, .own, none⟩, ⟨128640, .own, none⟩, ⟨128515, .val, none⟩, ⟨128514, .val, none⟩, ⟨128513, .val, none⟩, ⟨128512, .val, none⟩, ⟨448, .val, (some (.one .leaf))⟩, ⟨0, .val, (some (.one .leaf))⟩, ⟨384192, .dead, (some (.bx 6))⟩, ⟨192, (.ptr 3 0), (some (.one .leaf))⟩, ⟨384640, .dead, (some (.bx 6))⟩, ⟨640, (.ptr 10 0), (some (.one .leaf))⟩, ⟨576, .val, (some (.one .leaf))⟩, ⟨384512, .dead, (some (.bx 4))⟩, ⟨512, (.ptr 8 0), (some (.one .leaf))⟩, ⟨768, .val, (some (.one .leaf))⟩, ⟨832, .val, (some (.one .leaf))⟩]⟩, ⟨29, [128515, 128514, 128513, 128512, 128645, 128644, 128643, 128642, 128641, 128640, 128197, 128196, 128195, 128194, 128193, 128192, 576, 768, 0, 448], [tB, tI, tI, tS, tI, (.sl (.st .vol)), (.sl (.st .cell)), (.sl (.st .age)), (.sl (.st .node)), (.sl tI), tI, (.sl (.st .vol)), (.sl (.st .cell)), (.sl (.st .age)), (.sl (.st .node)), (.sl tI), tI, tI, (.sl tU), tI], [⟨128515, .val, none⟩, ⟨128514, .val, none⟩, ⟨128513, .val, none⟩, ⟨128512, .val, none⟩, ⟨128645, .val, none⟩, ⟨128644, .own, none⟩, ⟨128643, .own, none⟩, ⟨128642, .own, none⟩, ⟨128641, .own, none⟩, ⟨128640, .own, none⟩, ⟨128197, .val, none⟩, ⟨128196, .own, none⟩, ⟨128195, .own, none⟩, ⟨128194, .own, none⟩, ⟨128193, .own, none⟩, ⟨128192, .own, none⟩, ⟨384512, .dead, (some (.bx 4))⟩, ⟨512, (.ptr 8 0), (some (.one .leaf))⟩, ⟨576, .val, (some (.one .leaf))⟩, ⟨384640, .dead, (some (.bx 6))⟩, ⟨640, (.ptr 10 0), (some (.one .leaf))⟩, ⟨768, .val, (some (.one .leaf))⟩, ⟨384192, .dead, (some (.bx 6))⟩, ⟨192, (.ptr 3 0), (some (.one .leaf))⟩, ⟨0, .val, (some (.one .leaf))⟩, ⟨448, .val, (some (.one .leaf))⟩]⟩]
theorem G177 : ∀ K x, denF K Tryz.prog (tab K) (ents.take 177) h177 ⟨3, [.v .leaf [.val]], (.one .leaf), [.val]⟩ [(.sl tU)] [tB] x = laws_FnReads_v K x.1 := fun K x => by kernel_rfl
end Go.Proofs.Fw.R1
set_option linter.unusedVariables false
set_option maxRecDepth 100000
namespace Go.Proofs.Fw.R1
open Go Go.Proofs Go.Proofs.Fw
theorem U0 (K : Nat) : Upto Tryz.prog (tab K) ents 0 := Upto.zero
theorem U1 (K : Nat) : Upto Tryz.prog (tab K) ents 1 := (U0 K).step (K := K) (c := ⟨[(.sl tU)], [tB], fun x => laws_big K x.1⟩) noNum (by kernel_rfl) (by kernel_rfl) (entOk_all (n := 0) entsOk (by kernel_rfl)) (G0 K)
theorem U2 (K : Nat) : Upto Tryz.prog (tab K) ents 2 := (U1 K).step (K := K) (c := ⟨[(.sl tU)], [(.sl tU), tI, tI], fun x => spec_l1New_v K x.1⟩) noNum (by kernel_rfl) (by kernel_rfl) (entOk_all (n := 1) entsOk (by kernel_rfl)) (G1 K)
theorem U3 (K : Nat) : Upto Tryz.prog (tab K) ents 3 := (U2 K).step (K := K) (c := ⟨[(.sl tU), tI], [tI], fun x => spec_l1Size K x.1 x.2.1⟩) noNum (by kernel_rfl) (by kernel_rfl) (entOk_all (n := 2) entsOk (by kernel_rfl)) (G2 K)
theorem U4 (K : Nat) : Upto Tryz.prog (tab K) ents 4 := (U3 K).step (K := K) (c := ⟨[], [(.sl tI), (.sl (.st .node))], fun x => spec_TreeNew K⟩) noNum (by kernel_rfl) (by kernel_rfl) (entOk_all (n := 3) entsOk (by kernel_rfl)) (G3 K)
theorem U5 (K : Nat) : Upto Tryz.prog (tab K) ents 5 := (U4 K).step (K := K) (c := ⟨[], [(.sl (.st .cell))], fun x => spec_CellsNew K⟩) noNum (by kernel_rfl) (by kernel_rfl) (entOk_all (n := 4) entsOk (by kernel_rfl)) (G4 K)
theorem U6 (K : Nat) : Upto Tryz.prog (tab K) ents 6 := (U5 K).step (K := K) (c := ⟨[], [(.sl tI), (.sl (.st .node)), (.sl (.st .age)), (.sl (.st .cell)), (.sl (.st .vol)), tI], fun x => spec_PoolNew K⟩) noNum (by kernel_rfl) (by kernel_rfl) (entOk_all (n := 5) entsOk (by kernel_rfl)) (G5 K)
theorem U7 (K : Nat) : Upto Tryz.prog (tab K) ents 7 := (U6 K).step (K := K) (c := ⟨[(.sl tU), tI, tI], [tI, tI, tI], fun x => spec_l1Byte K x.1 x.2.1 x.2.2.1⟩) noNum (by kernel_rfl) (by kernel_rfl) (entOk_all (n := 6) entsOk (by kernel_rfl)) (G6 K)
theorem U8 (K : Nat) : Upto Tryz.prog (tab K) ents 8 := (U7 K).step (K := K) (c := ⟨[(.sl tU), tI, tI, tI], [tI, tI, tI], fun x => spec_l1Below K x.1 x.2.1 x.2.2.1 x.2.2.2.1⟩) noNum (by kernel_rfl) (by kernel_rfl) (entOk_all (n := 7) entsOk (by kernel_rfl)) (G7 K)
theorem U9 (K : Nat) : Upto Tryz.prog (tab K) ents 9 := (U8 K).step (K := K) (c := ⟨[(.sl tU), tI, tI, (.sl tI)], [tI, tI, tI], fun x => spec_l1Int K x.1 x.2.1 x.2.2.1 x.2.2.2.1⟩) noNum (by kernel_rfl) (by kernel_rfl) (entOk_all (n := 8) entsOk (by kernel_rfl)) (G8 K)
theorem U10 (K : Nat) : Upto Tryz.prog (tab K) ents 10 := (U9 K).step (K := K) (c := ⟨[(.sl tU), tI, tI, (.sl tS)], [tS, tI, tI], fun x => spec_l1Str K x.1 x.2.1 x.2.2.1 x.2.2.2.1⟩) noNum (by kernel_rfl) (by kernel_rfl) (entOk_all (n := 9) entsOk (by kernel_rfl)) (G9 K)
theorem U11 (K : Nat) : Upto Tryz.prog (tab K) ents 11 := (U10 K).step (K := K) (c := ⟨[(.sl tU), tI, tI], [tS, tI, tI], fun x => spec_l1Name K x.1 x.2.1 x.2.2.1⟩) noNum (by kernel_rfl) (by kernel_rfl) (entOk_all (n := 10) entsOk (by kernel_rfl)) (G10 K)
theorem U12 (K : Nat) : Upto Tryz.prog (tab K) ents 12 := (U11 K).step (K := K) (c := ⟨[(.sl tU), tI, tI], [tI, tI, tI], fun x => spec_l1Draw K x.1 x.2.1 x.2.2.1⟩) noNum (by kernel_rfl) (by kernel_rfl) (entOk_all (n := 11) entsOk (by kernel_rfl)) (G11 K)
theorem U13 (K : Nat) : Upto Tryz.prog (tab K) ents 13 := (U12 K).step (K := K) (c := ⟨[(.sl tU), tI, tI], [tI, tS, tS, tI, tI, tI, tI], fun x => spec_l15Draw K x.1 x.2.1 x.2.2.1⟩) noNum (by kernel_rfl) (by kernel_rfl) (entOk_all (n := 12) entsOk (by kernel_rfl)) (G12 K)
theorem U14 (K : Nat) : Upto Tryz.prog (tab K) ents 14 := (U13 K).step (K := K) (c := ⟨[tI, tI, tI], [tB], fun x => spec_l1In K x.1 x.2.1 x.2.2.1⟩) noNum (by kernel_rfl) (by kernel_rfl) (entOk_all (n := 13) entsOk (by kernel_rfl)) (G13 K)
theorem U15 (K : Nat) : Upto Tryz.prog (tab K) ents 15 := (U14 K).step (K := K) (c := ⟨[tS], [tB], fun x => spec_NameOk K x.1⟩) noNum (by kernel_rfl) (by kernel_rfl) (entOk_all (n := 14) entsOk (by kernel_rfl)) (G14 K)
theorem U16 (K : Nat) : Upto Tryz.prog (tab K) ents 16 := (U15 K).step (K := K) (c := ⟨[tI], [tB], fun x => spec_l1Word K x.1⟩) noNum (by kernel_rfl) (by kernel_rfl) (entOk_all (n := 15) entsOk (by kernel_rfl)) (G15 K)
theorem U17 (K : Nat) : Upto Tryz.prog (tab K) ents 17 := (U16 K).step (K := K) (c := ⟨[tI, tS, tS, tI, tI], [tB], fun x => spec_l15Zero K x.1 x.2.1 x.2.2.1 x.2.2.2.1 x.2.2.2.2.1⟩) noNum (by kernel_rfl) (by kernel_rfl) (entOk_all (n := 16) entsOk (by kernel_rfl)) (G16 K)
theorem U18 (K : Nat) : Upto Tryz.prog (tab K) ents 18 := (U17 K).step (K := K) (c := ⟨[tI, tS, tS, tI, tI], [tB], fun x => spec_OpOk K x.1 x.2.1 x.2.2.1 x.2.2.2.1 x.2.2.2.2.1⟩) noNum (by kernel_rfl) (by kernel_rfl) (entOk_all (n := 17) entsOk (by kernel_rfl)) (G17 K)
theorem U19 (K : Nat) : Upto Tryz.prog (tab K) ents 19 := (U18 K).step (K := K) (c := ⟨[tI, tI, tI, tI, tI], [tB], fun x => spec_KeyOk K x.1 x.2.1 x.2.2.1 x.2.2.2.1 x.2.2.2.2.1⟩) noNum (by kernel_rfl) (by kernel_rfl) (entOk_all (n := 18) entsOk (by kernel_rfl)) (G18 K)
theorem U20 (K : Nat) : Upto Tryz.prog (tab K) ents 20 := (U19 K).step (K := K) (c := ⟨[tI, tI, tI, tI, tI, tI, tI, tI, tI, tI], [tB], fun x => spec_LessKey K x.1 x.2.1 x.2.2.1 x.2.2.2.1 x.2.2.2.2.1 x.2.2.2.2.2.1 x.2.2.2.2.2.2.1 x.2.2.2.2.2.2.2.1 x.2.2.2.2.2.2.2.2.1 x.2.2.2.2.2.2.2.2.2.1⟩) noNum (by kernel_rfl) (by kernel_rfl) (entOk_all (n := 19) entsOk (by kernel_rfl)) (G19 K)
theorem U21 (K : Nat) : Upto Tryz.prog (tab K) ents 21 := (U20 K).step (K := K) (c := ⟨[(.sl (.st .key))], [tB], fun x => spec_l4Rises K x.1⟩) noNum (by kernel_rfl) (by kernel_rfl) (entOk_all (n := 20) entsOk (by kernel_rfl)) (G20 K)
theorem U22 (K : Nat) : Upto Tryz.prog (tab K) ents 22 := (U21 K).step (K := K) (c := ⟨[(.sl (.st .key))], [tB], fun x => spec_SetOk K x.1⟩) noNum (by kernel_rfl) (by kernel_rfl) (entOk_all (n := 21) entsOk (by kernel_rfl)) (G21 K)
theorem U23 (K : Nat) : Upto Tryz.prog (tab K) ents 23 := (U22 K).step (K := K) (c := ⟨[(.sl (.sl (.st .key)))], [tI], fun x => spec_l5Count K x.1⟩) noNum (by kernel_rfl) (by kernel_rfl) (entOk_all (n := 22) entsOk (by kernel_rfl)) (G22 K)
theorem U24 (K : Nat) : Upto Tryz.prog (tab K) ents 24 := (U23 K).step (K := K) (c := ⟨[(.sl (.sl (.st .key)))], [tB], fun x => spec_NodeOk K x.1⟩) noNum (by kernel_rfl) (by kernel_rfl) (entOk_all (n := 23) entsOk (by kernel_rfl)) (G23 K)
theorem U25 (K : Nat) : Upto Tryz.prog (tab K) ents 25 := (U24 K).step (K := K) (c := ⟨[tI, tI, tI, tI, tI, tI, tI, tI, tI, tI], [tB], fun x => spec_SameSpot K x.1 x.2.1 x.2.2.1 x.2.2.2.1 x.2.2.2.2.1 x.2.2.2.2.2.1 x.2.2.2.2.2.2.1 x.2.2.2.2.2.2.2.1 x.2.2.2.2.2.2.2.2.1 x.2.2.2.2.2.2.2.2.2.1⟩) noNum (by kernel_rfl) (by kernel_rfl) (entOk_all (n := 24) entsOk (by kernel_rfl)) (G24 K)
theorem U26 (K : Nat) : Upto Tryz.prog (tab K) ents 26 := (U25 K).step (K := K) (c := ⟨[(.sl (.st .key)), tI, tI, tI, tI, tI], [(.sl (.st .key))], fun x => spec_SetPut K x.1 x.2.1 x.2.2.1 x.2.2.2.1 x.2.2.2.2.1 x.2.2.2.2.2.1⟩) noNum (by kernel_rfl) (by kernel_rfl) (entOk_all (n := 25) entsOk (by kernel_rfl)) (G25 K)
theorem U27 (K : Nat) : Upto Tryz.prog (tab K) ents 27 := (U26 K).step (K := K) (c := ⟨[(.sl (.st .key)), (.sl (.st .key))], [(.sl (.st .key))], fun x => spec_MergeSets K x.1 x.2.1⟩) noNum (by kernel_rfl) (by kernel_rfl) (entOk_all (n := 26) entsOk (by kernel_rfl)) (G26 K)
theorem U28 (K : Nat) : Upto Tryz.prog (tab K) ents 28 := (U27 K).step (K := K) (c := ⟨[(.sl (.st .key))], [(.sl (.st .key))], fun x => spec_Drop K x.1⟩) noNum (by kernel_rfl) (by kernel_rfl) (entOk_all (n := 27) entsOk (by kernel_rfl)) (G27 K)
theorem U29 (K : Nat) : Upto Tryz.prog (tab K) ents 29 := (U28 K).step (K := K) (c := ⟨[(.sl (.sl (.st .key)))], [(.sl (.st .key))], fun x => spec_NodeKeys K x.1⟩) noNum (by kernel_rfl) (by kernel_rfl) (entOk_all (n := 28) entsOk (by kernel_rfl)) (G28 K)
theorem U30 (K : Nat) : Upto Tryz.prog (tab K) ents 30 := (U29 K).step (K := K) (c := ⟨[tI, tI], [tI], fun x => spec_SpotOf K x.1 x.2.1⟩) noNum (by kernel_rfl) (by kernel_rfl) (entOk_all (n := 29) entsOk (by kernel_rfl)) (G29 K)
theorem U31 (K : Nat) : Upto Tryz.prog (tab K) ents 31 := (U30 K).step (K := K) (c := ⟨[tI, tI, tI, tI, tI], [tI], fun x => spec_l6Spot K x.1 x.2.1 x.2.2.1 x.2.2.2.1 x.2.2.2.2.1⟩) noNum (by kernel_rfl) (by kernel_rfl) (entOk_all (n := 30) entsOk (by kernel_rfl)) (G30 K)
theorem U32 (K : Nat) : Upto Tryz.prog (tab K) ents 32 := (U31 K).step (K := K) (c := ⟨[(.sl tI), (.sl (.st .node)), tI], [tB], fun x => spec_l6Node K x.1 x.2.1 x.2.2.1⟩) noNum (by kernel_rfl) (by kernel_rfl) (entOk_all (n := 31) entsOk (by kernel_rfl)) (G31 K)
theorem U33 (K : Nat) : Upto Tryz.prog (tab K) ents 33 := (U32 K).step (K := K) (c := ⟨[(.sl tI), (.sl (.st .node))], [(.sl (.st .key))], fun x => spec_TreeKeys K x.1 x.2.1⟩) noNum (by kernel_rfl) (by kernel_rfl) (entOk_all (n := 32) entsOk (by kernel_rfl)) (G32 K)
theorem U34 (K : Nat) : Upto Tryz.prog (tab K) ents 34 := (U33 K).step (K := K) (c := ⟨[(.sl tI), (.sl (.st .node))], [tB], fun x => spec_TreeOk K x.1 x.2.1⟩) noNum (by kernel_rfl) (by kernel_rfl) (entOk_all (n := 33) entsOk (by kernel_rfl)) (G33 K)
theorem U35 (K : Nat) : Upto Tryz.prog (tab K) ents 35 := (U34 K).step (K := K) (c := ⟨[(.sl (.st .age)), tI], [tI], fun x => spec_AgeAt K x.1 x.2.1⟩) noNum (by kernel_rfl) (by kernel_rfl) (entOk_all (n := 34) entsOk (by kernel_rfl)) (G34 K)
theorem U36 (K : Nat) : Upto Tryz.prog (tab K) ents 36 := (U35 K).step (K := K) (c := ⟨[(.sl (.st .age))], [tB], fun x => spec_AgesOk K x.1⟩) noNum (by kernel_rfl) (by kernel_rfl) (entOk_all (n := 35) entsOk (by kernel_rfl)) (G35 K)
theorem U37 (K : Nat) : Upto Tryz.prog (tab K) ents 37 := (U36 K).step (K := K) (c := ⟨[(.sl (.st .cell))], [tB], fun x => spec_CellsOk K x.1⟩) noNum (by kernel_rfl) (by kernel_rfl) (entOk_all (n := 36) entsOk (by kernel_rfl)) (G36 K)
theorem U38 (K : Nat) : Upto Tryz.prog (tab K) ents 38 := (U37 K).step (K := K) (c := ⟨[(.sl (.st .age)), tI], [(.sl tI)], fun x => spec_KidsOf K x.1 x.2.1⟩) noNum (by kernel_rfl) (by kernel_rfl) (entOk_all (n := 37) entsOk (by kernel_rfl)) (G37 K)
theorem U39 (K : Nat) : Upto Tryz.prog (tab K) ents 39 := (U38 K).step (K := K) (c := ⟨[(.sl tI), (.sl (.st .node)), (.sl (.st .age)), (.sl (.st .cell)), (.sl (.st .vol)), tI], [tB], fun x => spec_l10Vols K x.1 x.2.1 x.2.2.1 x.2.2.2.1 x.2.2.2.2.1 x.2.2.2.2.2.1⟩) noNum (by kernel_rfl) (by kernel_rfl) (entOk_all (n := 38) entsOk (by kernel_rfl)) (G38 K)
theorem U40 (K : Nat) : Upto Tryz.prog (tab K) ents 40 := (U39 K).step (K := K) (c := ⟨[(.sl (.st .cell)), tI, tI], [tI, tB], fun x => spec_CellAt K x.1 x.2.1 x.2.2.1⟩) noNum (by kernel_rfl) (by kernel_rfl) (entOk_all (n := 39) entsOk (by kernel_rfl)) (G39 K)
theorem U41 (K : Nat) : Upto Tryz.prog (tab K) ents 41 := (U40 K).step (K := K) (c := ⟨[(.sl (.st .cell))], [tI], fun x => spec_UsedCells K x.1⟩) noNum (by kernel_rfl) (by kernel_rfl) (entOk_all (n := 40) entsOk (by kernel_rfl)) (G40 K)
theorem U42 (K : Nat) : Upto Tryz.prog (tab K) ents 42 := (U41 K).step (K := K) (c := ⟨[(.sl tI), (.sl (.st .node)), (.sl (.st .age)), (.sl (.st .cell)), (.sl (.st .vol)), tI], [tB], fun x => spec_l10Keys K x.1 x.2.1 x.2.2.1 x.2.2.2.1 x.2.2.2.2.1 x.2.2.2.2.2.1⟩) noNum (by kernel_rfl) (by kernel_rfl) (entOk_all (n := 41) entsOk (by kernel_rfl)) (G41 K)
theorem U43 (K : Nat) : Upto Tryz.prog (tab K) ents 43 := (U42 K).step (K := K) (c := ⟨[(.sl tI), (.sl (.st .node)), (.sl (.st .age)), (.sl (.st .cell)), (.sl (.st .vol)), tI], [tB], fun x => spec_PoolOk K x.1 x.2.1 x.2.2.1 x.2.2.2.1 x.2.2.2.2.1 x.2.2.2.2.2.1⟩) noNum (by kernel_rfl) (by kernel_rfl) (entOk_all (n := 42) entsOk (by kernel_rfl)) (G42 K)
theorem U44 (K : Nat) : Upto Tryz.prog (tab K) ents 44 := (U43 K).step (K := K) (c := ⟨[(.sl (.sl (.st .key)))], [(.sl (.sl (.st .key)))], fun x => spec_l5Copy K x.1⟩) noNum (by kernel_rfl) (by kernel_rfl) (entOk_all (n := 43) entsOk (by kernel_rfl)) (G43 K)
theorem U45 (K : Nat) : Upto Tryz.prog (tab K) ents 45 := (U44 K).step (K := K) (c := ⟨[(.sl tI), (.sl (.st .node))], [(.sl tI), (.sl (.st .node))], fun x => spec_l6Copy K x.1 x.2.1⟩) noNum (by kernel_rfl) (by kernel_rfl) (entOk_all (n := 44) entsOk (by kernel_rfl)) (G44 K)
theorem U46 (K : Nat) : Upto Tryz.prog (tab K) ents 46 := (U45 K).step (K := K) (c := ⟨[(.sl (.st .cell))], [(.sl (.st .cell))], fun x => spec_l9Copy K x.1⟩) noNum (by kernel_rfl) (by kernel_rfl) (entOk_all (n := 45) entsOk (by kernel_rfl)) (G45 K)
theorem U47 (K : Nat) : Upto Tryz.prog (tab K) ents 47 := (U46 K).step (K := K) (c := ⟨[(.sl tI), (.sl (.st .node)), (.sl (.st .age)), (.sl (.st .cell)), (.sl (.st .vol)), tI], [(.sl tI), (.sl (.st .node)), (.sl (.st .age)), (.sl (.st .cell)), (.sl (.st .vol)), tI], fun x => spec_l10Copy K x.1 x.2.1 x.2.2.1 x.2.2.2.1 x.2.2.2.2.1 x.2.2.2.2.2.1⟩) noNum (by kernel_rfl) (by kernel_rfl) (entOk_all (n := 46) entsOk (by kernel_rfl)) (G46 K)
theorem U48 (K : Nat) : Upto Tryz.prog (tab K) ents 48 := (U47 K).step (K := K) (c := ⟨[(.sl tI), (.sl (.st .node)), (.sl (.st .age)), (.sl (.st .cell)), (.sl (.st .vol)), tI, tS], [tI], fun x => spec_l11Form K x.1 x.2.1 x.2.2.1 x.2.2.2.1 x.2.2.2.2.1 x.2.2.2.2.2.1 x.2.2.2.2.2.2.1⟩) noNum (by kernel_rfl) (by kernel_rfl) (entOk_all (n := 47) entsOk (by kernel_rfl)) (G47 K)
theorem U49 (K : Nat) : Upto Tryz.prog (tab K) ents 49 := (U48 K).step (K := K) (c := ⟨[(.sl tI), (.sl (.st .node)), (.sl (.st .age)), (.sl (.st .cell)), (.sl (.st .vol)), tI, tS], [tI], fun x => spec_VolAt K x.1 x.2.1 x.2.2.1 x.2.2.2.1 x.2.2.2.2.1 x.2.2.2.2.2.1 x.2.2.2.2.2.2.1⟩) noNum (by kernel_rfl) (by kernel_rfl) (entOk_all (n := 48) entsOk (by kernel_rfl)) (G48 K)
theorem U50 (K : Nat) : Upto Tryz.prog (tab K) ents 50 := (U49 K).step (K := K) (c := ⟨[(.sl (.st .age)), tI, tI], [(.sl (.st .age)), tB], fun x => spec_NewAge K x.1 x.2.1 x.2.2.1⟩) noNum (by kernel_rfl) (by kernel_rfl) (entOk_all (n := 49) entsOk (by kernel_rfl)) (G49 K)
theorem U51 (K : Nat) : Upto Tryz.prog (tab K) ents 51 := (U50 K).step (K := K) (c := ⟨[(.sl (.st .vol)), tS, tI, tI, tB], [(.sl (.st .vol))], fun x => spec_l11PutVol K x.1 x.2.1 x.2.2.1 x.2.2.2.1 x.2.2.2.2.1⟩) noNum (by kernel_rfl) (by kernel_rfl) (entOk_all (n := 50) entsOk (by kernel_rfl)) (G50 K)
theorem U52 (K : Nat) : Upto Tryz.prog (tab K) ents 52 := (U51 K).step (K := K) (c := ⟨[(.sl tI), (.sl (.st .node)), (.sl (.st .age)), (.sl (.st .cell)), (.sl (.st .vol)), tI, (.sl tI), (.sl (.st .node)), (.sl (.st .age)), (.sl (.st .cell)), (.sl (.st .vol)), tI, tB], [(.sl tI), (.sl (.st .node)), (.sl (.st .age)), (.sl (.st .cell)), (.sl (.st .vol)), tI, tI], fun x => spec_l11End_ro K x.1 x.2.1 x.2.2.1 x.2.2.2.1 x.2.2.2.2.1 x.2.2.2.2.2.1 x.2.2.2.2.2.2.1 x.2.2.2.2.2.2.2.1 x.2.2.2.2.2.2.2.2.1 x.2.2.2.2.2.2.2.2.2.1 x.2.2.2.2.2.2.2.2.2.2.1 x.2.2.2.2.2.2.2.2.2.2.2.1 x.2.2.2.2.2.2.2.2.2.2.2.2.1⟩) noNum (by kernel_rfl) (by kernel_rfl) (entOk_all (n := 51) entsOk (by kernel_rfl)) (G51 K)
theorem U53 (K : Nat) : Upto Tryz.prog (tab K) ents 53 := (U52 K).step (K := K) (c := ⟨[(.sl tI), (.sl (.st .node)), (.sl (.st .age)), (.sl (.st .cell)), (.sl (.st .vol)), tI, tS, tI], [(.sl tI), (.sl (.st .node)), (.sl (.st .age)), (.sl (.st .cell)), (.sl (.st .vol)), tI, tI], fun x => spec_Create K x.1 x.2.1 x.2.2.1 x.2.2.2.1 x.2.2.2.2.1 x.2.2.2.2.2.1 x.2.2.2.2.2.2.1 x.2.2.2.2.2.2.2.1⟩) noNum (by kernel_rfl) (by kernel_rfl) (entOk_all (n := 52) entsOk (by kernel_rfl)) (G52 K)
theorem U54 (K : Nat) : Upto Tryz.prog (tab K) ents 54 := (U53 K).step (K := K) (c := ⟨[(.sl tI), (.sl (.st .node)), (.sl (.st .age)), (.sl (.st .cell)), (.sl (.st .vol)), tI, tS, tS, tB], [(.sl tI), (.sl (.st .node)), (.sl (.st .age)), (.sl (.st .cell)), (.sl (.st .vol)), tI, tI], fun x => spec_Snap K x.1 x.2.1 x.2.2.1 x.2.2.2.1 x.2.2.2.2.1 x.2.2.2.2.2.1 x.2.2.2.2.2.2.1 x.2.2.2.2.2.2.2.1 x.2.2.2.2.2.2.2.2.1⟩) noNum (by kernel_rfl) (by kernel_rfl) (entOk_all (n := 53) entsOk (by kernel_rfl)) (G53 K)
theorem U55 (K : Nat) : Upto Tryz.prog (tab K) ents 55 := (U54 K).step (K := K) (c := ⟨[(.sl tI), (.sl (.st .node)), (.sl (.st .age)), (.sl (.st .cell)), (.sl (.st .vol)), tI, tS], [tI], fun x => spec_l11Vol K x.1 x.2.1 x.2.2.1 x.2.2.2.1 x.2.2.2.2.1 x.2.2.2.2.2.1 x.2.2.2.2.2.2.1⟩) noNum (by kernel_rfl) (by kernel_rfl) (entOk_all (n := 54) entsOk (by kernel_rfl)) (G54 K)
theorem U56 (K : Nat) : Upto Tryz.prog (tab K) ents 56 := (U55 K).step (K := K) (c := ⟨[(.sl tI), (.sl (.st .node)), (.sl (.st .age)), (.sl (.st .cell)), (.sl (.st .vol)), tI, tS], [(.sl tI), (.sl (.st .node)), (.sl (.st .age)), (.sl (.st .cell)), (.sl (.st .vol)), tI, tI], fun x => spec_Kill K x.1 x.2.1 x.2.2.1 x.2.2.2.1 x.2.2.2.2.1 x.2.2.2.2.2.1 x.2.2.2.2.2.2.1⟩) noNum (by kernel_rfl) (by kernel_rfl) (entOk_all (n := 55) entsOk (by kernel_rfl)) (G55 K)
theorem U57 (K : Nat) : Upto Tryz.prog (tab K) ents 57 := (U56 K).step (K := K) (c := ⟨[(.sl tI), (.sl (.st .node)), (.sl (.st .age)), (.sl (.st .cell)), (.sl (.st .vol)), tI, tS, tI], [tI], fun x => spec_l11Block K x.1 x.2.1 x.2.2.1 x.2.2.2.1 x.2.2.2.2.1 x.2.2.2.2.2.1 x.2.2.2.2.2.2.1 x.2.2.2.2.2.2.2.1⟩) noNum (by kernel_rfl) (by kernel_rfl) (entOk_all (n := 56) entsOk (by kernel_rfl)) (G56 K)
theorem U58 (K : Nat) : Upto Tryz.prog (tab K) ents 58 := (U57 K).step (K := K) (c := ⟨[(.sl (.st .cell)), tI], [(.sl (.st .cell)), tI, tB], fun x => spec_TakeCell K x.1 x.2.1⟩) noNum (by kernel_rfl) (by kernel_rfl) (entOk_all (n := 57) entsOk (by kernel_rfl)) (G57 K)
theorem U59 (K : Nat) : Upto Tryz.prog (tab K) ents 59 := (U58 K).step (K := K) (c := ⟨[(.sl tI), (.sl (.st .node)), tI, tI], [tI], fun x => spec_WhereIn K x.1 x.2.1 x.2.2.1 x.2.2.2.1⟩) noNum (by kernel_rfl) (by kernel_rfl) (entOk_all (n := 58) entsOk (by kernel_rfl)) (G58 K)
theorem U60 (K : Nat) : Upto Tryz.prog (tab K) ents 60 := (U59 K).step (K := K) (c := ⟨[(.sl (.st .key)), tI, tI], [tI, tI, tI, tI, tI, tB], fun x => spec_SetAt K x.1 x.2.1 x.2.2.1⟩) noNum (by kernel_rfl) (by kernel_rfl) (entOk_all (n := 59) entsOk (by kernel_rfl)) (G59 K)
theorem U61 (K : Nat) : Upto Tryz.prog (tab K) ents 61 := (U60 K).step (K := K) (c := ⟨[(.sl (.sl (.st .key))), tI, tI], [tI, tI, tI, tI, tI, tB], fun x => spec_NodeAt K x.1 x.2.1 x.2.2.1⟩) noNum (by kernel_rfl) (by kernel_rfl) (entOk_all (n := 60) entsOk (by kernel_rfl)) (G60 K)
theorem U62 (K : Nat) : Upto Tryz.prog (tab K) ents 62 := (U61 K).step (K := K) (c := ⟨[(.sl tI), (.sl (.st .node)), tI, tI], [tI, tI, tI, tI, tI, tB], fun x => spec_TreeAt K x.1 x.2.1 x.2.2.1 x.2.2.2.1⟩) noNum (by kernel_rfl) (by kernel_rfl) (entOk_all (n := 61) entsOk (by kernel_rfl)) (G61 K)
theorem U63 (K : Nat) : Upto Tryz.prog (tab K) ents 63 := (U62 K).step (K := K) (c := ⟨[(.sl (.st .key))], [(.sl (.sl (.st .key)))], fun x => spec_NodeNew K x.1⟩) noNum (by kernel_rfl) (by kernel_rfl) (entOk_all (n := 62) entsOk (by kernel_rfl)) (G62 K)
theorem U64 (K : Nat) : Upto Tryz.prog (tab K) ents 64 := (U63 K).step (K := K) (c := ⟨[(.sl (.sl (.st .key))), tI, tI, tI, tI, tI], [(.sl (.sl (.st .key))), tB], fun x => spec_NodePut K x.1 x.2.1 x.2.2.1 x.2.2.2.1 x.2.2.2.2.1 x.2.2.2.2.2.1⟩) noNum (by kernel_rfl) (by kernel_rfl) (entOk_all (n := 63) entsOk (by kernel_rfl)) (G63 K)
theorem U65 (K : Nat) : Upto Tryz.prog (tab K) ents 65 := (U64 K).step (K := K) (c := ⟨[(.sl tI), (.sl (.st .node)), tI, (.sl tI), (.sl (.st .node))], [(.sl tI), (.sl (.st .node))], fun x => spec_l6Set K x.1 x.2.1 x.2.2.1 x.2.2.2.1 x.2.2.2.2.1⟩) noNum (by kernel_rfl) (by kernel_rfl) (entOk_all (n := 64) entsOk (by kernel_rfl)) (G64 K)
theorem U66 (K : Nat) : Upto Tryz.prog (tab K) ents 66 := (U65 K).step (K := K) (c := ⟨[(.sl tI), (.sl (.st .node))], [tI], fun x => spec_l6Pair K x.1 x.2.1⟩) noNum (by kernel_rfl) (by kernel_rfl) (entOk_all (n := 65) entsOk (by kernel_rfl)) (G65 K)
theorem U67 (K : Nat) : Upto Tryz.prog (tab K) ents 67 := (U66 K).step (K := K) (c := ⟨[(.sl tI), (.sl (.st .node))], [(.sl tI), (.sl (.st .node))], fun x => spec_l6Join_o K x.1 x.2.1⟩) noNum (by kernel_rfl) (by kernel_rfl) (entOk_all (n := 66) entsOk (by kernel_rfl)) (G66 K)
theorem U68 (K : Nat) : Upto Tryz.prog (tab K) ents 68 := (U67 K).step (K := K) (c := ⟨[(.sl tI), (.sl (.st .node)), tI, tI, tI, tI, tI], [(.sl tI), (.sl (.st .node)), tB], fun x => spec_TreePut K x.1 x.2.1 x.2.2.1 x.2.2.2.1 x.2.2.2.2.1 x.2.2.2.2.2.1 x.2.2.2.2.2.2.1⟩) noNum (by kernel_rfl) (by kernel_rfl) (entOk_all (n := 67) entsOk (by kernel_rfl)) (G67 K)
theorem U69 (K : Nat) : Upto Tryz.prog (tab K) ents 69 := (U68 K).step (K := K) (c := ⟨[(.sl (.st .cell)), tI], [(.sl (.st .cell))], fun x => spec_FreeCell K x.1 x.2.1⟩) noNum (by kernel_rfl) (by kernel_rfl) (entOk_all (n := 68) entsOk (by kernel_rfl)) (G68 K)
theorem U70 (K : Nat) : Upto Tryz.prog (tab K) ents 70 := (U69 K).step (K := K) (c := ⟨[(.sl tI), (.sl (.st .node)), (.sl (.st .age)), (.sl (.st .cell)), (.sl (.st .vol)), tI, tI, tI, tI, tI, tI, tB], [(.sl (.st .cell))], fun x => spec_l11Drop K x.1 x.2.1 x.2.2.1 x.2.2.2.1 x.2.2.2.2.1 x.2.2.2.2.2.1 x.2.2.2.2.2.2.1 x.2.2.2.2.2.2.2.1 x.2.2.2.2.2.2.2.2.1 x.2.2.2.2.2.2.2.2.2.1 x.2.2.2.2.2.2.2.2.2.2.1 x.2.2.2.2.2.2.2.2.2.2.2.1⟩) noNum (by kernel_rfl) (by kernel_rfl) (entOk_all (n := 69) entsOk (by kernel_rfl)) (G69 K)
theorem U71 (K : Nat) : Upto Tryz.prog (tab K) ents 71 := (U70 K).step (K := K) (c := ⟨[(.sl tI), (.sl (.st .node)), (.sl (.st .age)), (.sl (.st .cell)), (.sl (.st .vol)), tI, tI, tI, tI, tI, tI], [tB, (.sl tI), (.sl (.st .node)), (.sl (.st .cell))], fun x => spec_l11Put K x.1 x.2.1 x.2.2.1 x.2.2.2.1 x.2.2.2.2.1 x.2.2.2.2.2.1 x.2.2.2.2.2.2.1 x.2.2.2.2.2.2.2.1 x.2.2.2.2.2.2.2.2.1 x.2.2.2.2.2.2.2.2.2.1 x.2.2.2.2.2.2.2.2.2.2.1⟩) noNum (by kernel_rfl) (by kernel_rfl) (entOk_all (n := 70) entsOk (by kernel_rfl)) (G70 K)
theorem U72 (K : Nat) : Upto Tryz.prog (tab K) ents 72 := (U71 K).step (K := K) (c := ⟨[(.sl tI), (.sl (.st .node)), (.sl (.st .age)), (.sl (.st .cell)), (.sl (.st .vol)), tI, tS, tI, tI], [(.sl tI), (.sl (.st .node)), (.sl (.st .age)), (.sl (.st .cell)), (.sl (.st .vol)), tI, tI], fun x => spec_Write K x.1 x.2.1 x.2.2.1 x.2.2.2.1 x.2.2.2.2.1 x.2.2.2.2.2.1 x.2.2.2.2.2.2.1 x.2.2.2.2.2.2.2.1 x.2.2.2.2.2.2.2.2.1⟩) noNum (by kernel_rfl) (by kernel_rfl) (entOk_all (n := 71) entsOk (by kernel_rfl)) (G71 K)
theorem U73 (K : Nat) : Upto Tryz.prog (tab K) ents 73 := (U72 K).step (K := K) (c := ⟨[(.sl (.st .age)), tI], [(.sl tI)], fun x => spec_PathOf K x.1 x.2.1⟩) noNum (by kernel_rfl) (by kernel_rfl) (entOk_all (n := 72) entsOk (by kernel_rfl)) (G72 K)
theorem U74 (K : Nat) : Upto Tryz.prog (tab K) ents 74 := (U73 K).step (K := K) (c := ⟨[(.sl tI), (.sl (.st .node)), tI], [(.sl (.st .key))], fun x => spec_KeysOf K x.1 x.2.1 x.2.2.1⟩) noNum (by kernel_rfl) (by kernel_rfl) (entOk_all (n := 73) entsOk (by kernel_rfl)) (G73 K)
theorem U75 (K : Nat) : Upto Tryz.prog (tab K) ents 75 := (U74 K).step (K := K) (c := ⟨[(.sl tI), tI], [tB], fun x => spec_l7Has K x.1 x.2.1⟩) noNum (by kernel_rfl) (by kernel_rfl) (entOk_all (n := 74) entsOk (by kernel_rfl)) (G74 K)
theorem U76 (K : Nat) : Upto Tryz.prog (tab K) ents 76 := (U75 K).step (K := K) (c := ⟨[(.sl tI), (.sl (.st .node)), tI, (.sl tI)], [tI, tI, tI, tI, tI, tB], fun x => spec_l8Near K x.1 x.2.1 x.2.2.1 x.2.2.2.1⟩) noNum (by kernel_rfl) (by kernel_rfl) (entOk_all (n := 75) entsOk (by kernel_rfl)) (G75 K)
theorem U77 (K : Nat) : Upto Tryz.prog (tab K) ents 77 := (U76 K).step (K := K) (c := ⟨[(.sl tI), (.sl (.st .node)), (.sl (.st .age)), tI, tI], [tI, tI, tI, tI, tI, tB], fun x => spec_SeenAbove K x.1 x.2.1 x.2.2.1 x.2.2.2.1 x.2.2.2.2.1⟩) noNum (by kernel_rfl) (by kernel_rfl) (entOk_all (n := 76) entsOk (by kernel_rfl)) (G76 K)
theorem U78 (K : Nat) : Upto Tryz.prog (tab K) ents 78 := (U77 K).step (K := K) (c := ⟨[(.sl tI), (.sl (.st .node)), (.sl (.st .age)), (.sl (.st .cell)), (.sl (.st .vol)), tI, tI, tI], [tB, (.sl tI), (.sl (.st .node)), (.sl (.st .cell))], fun x => spec_l11Discard K x.1 x.2.1 x.2.2.1 x.2.2.2.1 x.2.2.2.2.1 x.2.2.2.2.2.1 x.2.2.2.2.2.2.1 x.2.2.2.2.2.2.2.1⟩) noNum (by kernel_rfl) (by kernel_rfl) (entOk_all (n := 77) entsOk (by kernel_rfl)) (G77 K)
theorem U79 (K : Nat) : Upto Tryz.prog (tab K) ents 79 := (U78 K).step (K := K) (c := ⟨[(.sl tI), (.sl (.st .node)), (.sl (.st .age)), (.sl (.st .cell)), (.sl (.st .vol)), tI, tS, tI], [(.sl tI), (.sl (.st .node)), (.sl (.st .age)), (.sl (.st .cell)), (.sl (.st .vol)), tI, tI], fun x => spec_Discard K x.1 x.2.1 x.2.2.1 x.2.2.2.1 x.2.2.2.2.1 x.2.2.2.2.2.1 x.2.2.2.2.2.2.1 x.2.2.2.2.2.2.2.1⟩) noNum (by kernel_rfl) (by kernel_rfl) (entOk_all (n := 78) entsOk (by kernel_rfl)) (G78 K)
theorem U80 (K : Nat) : Upto Tryz.prog (tab K) ents 80 := (U79 K).step (K := K) (c := ⟨[(.sl tI), (.sl (.st .node)), (.sl (.st .age)), (.sl (.st .cell)), (.sl (.st .vol)), tI, tS, tI], [(.sl tI), (.sl (.st .node)), (.sl (.st .age)), (.sl (.st .cell)), (.sl (.st .vol)), tI, tI], fun x => spec_Resize K x.1 x.2.1 x.2.2.1 x.2.2.2.1 x.2.2.2.2.1 x.2.2.2.2.2.1 x.2.2.2.2.2.2.1 x.2.2.2.2.2.2.2.1⟩) noNum (by kernel_rfl) (by kernel_rfl) (entOk_all (n := 79) entsOk (by kernel_rfl)) (G79 K)
theorem U81 (K : Nat) : Upto Tryz.prog (tab K) ents 81 := (U80 K).step (K := K) (c := ⟨[(.sl tI), (.sl (.st .node)), (.sl (.st .age)), tI, tI], [tI, tI, tI, tI, tI, tB], fun x => spec_Seen K x.1 x.2.1 x.2.2.1 x.2.2.2.1 x.2.2.2.2.1⟩) noNum (by kernel_rfl) (by kernel_rfl) (entOk_all (n := 80) entsOk (by kernel_rfl)) (G80 K)
theorem U82 (K : Nat) : Upto Tryz.prog (tab K) ents 82 := (U81 K).step (K := K) (c := ⟨[(.sl tI), (.sl (.st .node)), (.sl (.st .age)), tI, tI, tI, tI, tI, tI], [tB], fun x => spec_Sees K x.1 x.2.1 x.2.2.1 x.2.2.2.1 x.2.2.2.2.1 x.2.2.2.2.2.1 x.2.2.2.2.2.2.1 x.2.2.2.2.2.2.2.1 x.2.2.2.2.2.2.2.2.1⟩) noNum (by kernel_rfl) (by kernel_rfl) (entOk_all (n := 81) entsOk (by kernel_rfl)) (G81 K)
theorem U83 (K : Nat) : Upto Tryz.prog (tab K) ents 83 := (U82 K).step (K := K) (c := ⟨[(.sl tI), (.sl (.st .node)), (.sl (.st .age)), (.sl (.st .cell)), (.sl (.st .vol)), tI, tI, tI, tI, tI, tI], [tB], fun x => spec_SeenByAny K x.1 x.2.1 x.2.2.1 x.2.2.2.1 x.2.2.2.2.1 x.2.2.2.2.2.1 x.2.2.2.2.2.2.1 x.2.2.2.2.2.2.2.1 x.2.2.2.2.2.2.2.2.1 x.2.2.2.2.2.2.2.2.2.1 x.2.2.2.2.2.2.2.2.2.2.1⟩) noNum (by kernel_rfl) (by kernel_rfl) (entOk_all (n := 82) entsOk (by kernel_rfl)) (G82 K)
theorem U84 (K : Nat) : Upto Tryz.prog (tab K) ents 84 := (U83 K).step (K := K) (c := ⟨[(.sl tI), (.sl (.st .node)), (.sl (.st .age)), (.sl (.st .cell)), (.sl (.st .vol)), tI, tI], [tB], fun x => spec_Idle K x.1 x.2.1 x.2.2.1 x.2.2.2.1 x.2.2.2.2.1 x.2.2.2.2.2.1 x.2.2.2.2.2.2.1⟩) noNum (by kernel_rfl) (by kernel_rfl) (entOk_all (n := 83) entsOk (by kernel_rfl)) (G83 K)
theorem U85 (K : Nat) : Upto Tryz.prog (tab K) ents 85 := (U84 K).step (K := K) (c := ⟨[(.sl tI), (.sl (.st .node)), (.sl (.st .age)), (.sl (.st .cell)), (.sl (.st .vol)), tI, tI], [tI], fun x => spec_l13Kid K x.1 x.2.1 x.2.2.1 x.2.2.2.1 x.2.2.2.2.1 x.2.2.2.2.2.1 x.2.2.2.2.2.2.1⟩) noNum (by kernel_rfl) (by kernel_rfl) (entOk_all (n := 84) entsOk (by kernel_rfl)) (G84 K)
theorem U86 (K : Nat) : Upto Tryz.prog (tab K) ents 86 := (U85 K).step (K := K) (c := ⟨[(.sl tI), (.sl (.st .node)), (.sl (.st .age)), (.sl (.st .cell)), (.sl (.st .vol)), tI, tI, tI, tI, tI, tI], [tB], fun x => spec_l13Move K x.1 x.2.1 x.2.2.1 x.2.2.2.1 x.2.2.2.2.1 x.2.2.2.2.2.1 x.2.2.2.2.2.2.1 x.2.2.2.2.2.2.2.1 x.2.2.2.2.2.2.2.2.1 x.2.2.2.2.2.2.2.2.2.1 x.2.2.2.2.2.2.2.2.2.2.1⟩) noNum (by kernel_rfl) (by kernel_rfl) (entOk_all (n := 85) entsOk (by kernel_rfl)) (G85 K)
theorem U87 (K : Nat) : Upto Tryz.prog (tab K) ents 87 := (U86 K).step (K := K) (c := ⟨[(.sl tI), (.sl (.st .node)), (.sl (.st .age)), (.sl (.st .cell)), (.sl (.st .vol)), tI, tI, tI, tI, tI, tI, tI], [tB], fun x => spec_l13Key K x.1 x.2.1 x.2.2.1 x.2.2.2.1 x.2.2.2.2.1 x.2.2.2.2.2.1 x.2.2.2.2.2.2.1 x.2.2.2.2.2.2.2.1 x.2.2.2.2.2.2.2.2.1 x.2.2.2.2.2.2.2.2.2.1 x.2.2.2.2.2.2.2.2.2.2.1 x.2.2.2.2.2.2.2.2.2.2.2.1⟩) noNum (by kernel_rfl) (by kernel_rfl) (entOk_all (n := 86) entsOk (by kernel_rfl)) (G86 K)
theorem U88 (K : Nat) : Upto Tryz.prog (tab K) ents 88 := (U87 K).step (K := K) (c := ⟨[(.sl tI), (.sl (.st .node)), (.sl (.st .age)), (.sl (.st .cell)), (.sl (.st .vol)), tI, tI], [tB], fun x => spec_l13Age K x.1 x.2.1 x.2.2.1 x.2.2.2.1 x.2.2.2.2.1 x.2.2.2.2.2.1 x.2.2.2.2.2.2.1⟩) noNum (by kernel_rfl) (by kernel_rfl) (entOk_all (n := 87) entsOk (by kernel_rfl)) (G87 K)
theorem U89 (K : Nat) : Upto Tryz.prog (tab K) ents 89 := (U88 K).step (K := K) (c := ⟨[(.sl tI), (.sl (.st .node)), (.sl (.st .age)), (.sl (.st .cell)), (.sl (.st .vol)), tI], [tI, tI], fun x => spec_NextStep K x.1 x.2.1 x.2.2.1 x.2.2.2.1 x.2.2.2.2.1 x.2.2.2.2.2.1⟩) noNum (by kernel_rfl) (by kernel_rfl) (entOk_all (n := 88) entsOk (by kernel_rfl)) (G88 K)
theorem U90 (K : Nat) : Upto Tryz.prog (tab K) ents 90 := (U89 K).step (K := K) (c := ⟨[(.sl tI), (.sl (.st .node)), (.sl (.st .age)), (.sl (.st .cell)), (.sl (.st .vol)), tI, tI, tI, tI, tI, tI], [tB, (.sl tI), (.sl (.st .node)), (.sl (.st .cell))], fun x => spec_l13None K x.1 x.2.1 x.2.2.1 x.2.2.2.1 x.2.2.2.2.1 x.2.2.2.2.2.1 x.2.2.2.2.2.2.1 x.2.2.2.2.2.2.2.1 x.2.2.2.2.2.2.2.2.1 x.2.2.2.2.2.2.2.2.2.1 x.2.2.2.2.2.2.2.2.2.2.1⟩) noNum (by kernel_rfl) (by kernel_rfl) (entOk_all (n := 89) entsOk (by kernel_rfl)) (G89 K)
theorem U91 (K : Nat) : Upto Tryz.prog (tab K) ents 91 := (U90 K).step (K := K) (c := ⟨[(.sl (.st .age)), tI], [(.sl (.st .age)), tB], fun x => spec_CutAge K x.1 x.2.1⟩) noNum (by kernel_rfl) (by kernel_rfl) (entOk_all (n := 90) entsOk (by kernel_rfl)) (G90 K)
theorem U92 (K : Nat) : Upto Tryz.prog (tab K) ents 92 := (U91 K).step (K := K) (c := ⟨[(.sl tI), (.sl (.st .node)), (.sl (.st .age)), (.sl (.st .cell)), (.sl (.st .vol)), tI], [(.sl tI), (.sl (.st .node)), (.sl (.st .age)), (.sl (.st .cell)), (.sl (.st .vol)), tI, tB], fun x => spec_PruneStep K x.1 x.2.1 x.2.2.1 x.2.2.2.1 x.2.2.2.2.1 x.2.2.2.2.2.1⟩) noNum (by kernel_rfl) (by kernel_rfl) (entOk_all (n := 91) entsOk (by kernel_rfl)) (G91 K)
theorem U93 (K : Nat) : Upto Tryz.prog (tab K) ents 93 := (U92 K).step (K := K) (c := ⟨[(.sl (.sl (.st .key)))], [(.sl (.sl (.st .key)))], fun x => spec_NodePack K x.1⟩) noNum (by kernel_rfl) (by kernel_rfl) (entOk_all (n := 92) entsOk (by kernel_rfl)) (G92 K)
theorem U94 (K : Nat) : Upto Tryz.prog (tab K) ents 94 := (U93 K).step (K := K) (c := ⟨[(.sl tI), (.sl (.st .node)), tI], [(.sl tI), (.sl (.st .node))], fun x => spec_TreePack K x.1 x.2.1 x.2.2.1⟩) noNum (by kernel_rfl) (by kernel_rfl) (entOk_all (n := 93) entsOk (by kernel_rfl)) (G93 K)
theorem U95 (K : Nat) : Upto Tryz.prog (tab K) ents 95 := (U94 K).step (K := K) (c := ⟨[(.sl tI), (.sl (.st .node)), (.sl (.st .age)), (.sl (.st .cell)), (.sl (.st .vol)), tI, tI], [(.sl tI), (.sl (.st .node)), (.sl (.st .age)), (.sl (.st .cell)), (.sl (.st .vol)), tI, tB], fun x => spec_PackStep K x.1 x.2.1 x.2.2.1 x.2.2.2.1 x.2.2.2.2.1 x.2.2.2.2.2.1 x.2.2.2.2.2.2.1⟩) noNum (by kernel_rfl) (by kernel_rfl) (entOk_all (n := 94) entsOk (by kernel_rfl)) (G94 K)
theorem U96 (K : Nat) : Upto Tryz.prog (tab K) ents 96 := (U95 K).step (K := K) (c := ⟨[(.sl tI), (.sl (.st .node)), (.sl (.st .age)), (.sl (.st .cell)), (.sl (.st .vol)), tI, tI], [tI, tI, tI, tI, tI], fun x => spec_l14Key K x.1 x.2.1 x.2.2.1 x.2.2.2.1 x.2.2.2.2.1 x.2.2.2.2.2.1 x.2.2.2.2.2.2.1⟩) noNum (by kernel_rfl) (by kernel_rfl) (entOk_all (n := 95) entsOk (by kernel_rfl)) (G95 K)
theorem U97 (K : Nat) : Upto Tryz.prog (tab K) ents 97 := (U96 K).step (K := K) (c := ⟨[(.sl tI), (.sl (.st .node)), (.sl (.st .age)), (.sl (.st .cell)), (.sl (.st .vol)), tI, tI], [(.sl tI), (.sl (.st .node)), (.sl (.st .age)), (.sl (.st .cell)), (.sl (.st .vol)), tI, tB], fun x => spec_MoveStep K x.1 x.2.1 x.2.2.1 x.2.2.2.1 x.2.2.2.2.1 x.2.2.2.2.2.1 x.2.2.2.2.2.2.1⟩) noNum (by kernel_rfl) (by kernel_rfl) (entOk_all (n := 96) entsOk (by kernel_rfl)) (G96 K)
theorem U98 (K : Nat) : Upto Tryz.prog (tab K) ents 98 := (U97 K).step (K := K) (c := ⟨[(.sl tI), (.sl (.st .node)), (.sl (.st .age)), (.sl (.st .cell)), (.sl (.st .vol)), tI, tI, tS, tS, tI, tI], [(.sl tI), (.sl (.st .node)), (.sl (.st .age)), (.sl (.st .cell)), (.sl (.st .vol)), tI, tB], fun x => spec_l15Step K x.1 x.2.1 x.2.2.1 x.2.2.2.1 x.2.2.2.2.1 x.2.2.2.2.2.1 x.2.2.2.2.2.2.1 x.2.2.2.2.2.2.2.1 x.2.2.2.2.2.2.2.2.1 x.2.2.2.2.2.2.2.2.2.1 x.2.2.2.2.2.2.2.2.2.2.1⟩) noNum (by kernel_rfl) (by kernel_rfl) (entOk_all (n := 97) entsOk (by kernel_rfl)) (G97 K)
theorem U99 (K : Nat) : Upto Tryz.prog (tab K) ents 99 := (U98 K).step (K := K) (c := ⟨[(.sl tI), (.sl (.st .node)), (.sl (.st .age)), (.sl (.st .cell)), (.sl (.st .vol)), tI, tI, tS, tS, tI, tI], [(.sl tI), (.sl (.st .node)), (.sl (.st .age)), (.sl (.st .cell)), (.sl (.st .vol)), tI, tI], fun x => spec_Apply K x.1 x.2.1 x.2.2.1 x.2.2.2.1 x.2.2.2.2.1 x.2.2.2.2.2.1 x.2.2.2.2.2.2.1 x.2.2.2.2.2.2.2.1 x.2.2.2.2.2.2.2.2.1 x.2.2.2.2.2.2.2.2.2.1 x.2.2.2.2.2.2.2.2.2.2.1⟩) noNum (by kernel_rfl) (by kernel_rfl) (entOk_all (n := 98) entsOk (by kernel_rfl)) (G98 K)
theorem U100 (K : Nat) : Upto Tryz.prog (tab K) ents 100 := (U99 K).step (K := K) (c := ⟨[(.sl tU), tI, tI, tI], [(.sl tI), (.sl (.st .node)), (.sl (.st .age)), (.sl (.st .cell)), (.sl (.st .vol)), tI, tI, tI], fun x => spec_l10Draw K x.1 x.2.1 x.2.2.1 x.2.2.2.1⟩) noNum (by kernel_rfl) (by kernel_rfl) (entOk_all (n := 99) entsOk (by kernel_rfl)) (G99 K)
theorem U101 (K : Nat) : Upto Tryz.prog (tab K) ents 101 := (U100 K).step (K := K) (c := ⟨[(.sl tU)], [(.sl tI), (.sl (.st .node)), (.sl (.st .age)), (.sl (.st .cell)), (.sl (.st .vol)), tI, tI, tS, tS, tI, tI], fun x => spec_DrawPool_v K x.1⟩) noNum (by kernel_rfl) (by kernel_rfl) (entOk_all (n := 100) entsOk (by kernel_rfl)) (G100 K)
theorem U102 (K : Nat) : Upto Tryz.prog (tab K) ents 102 := (U101 K).step (K := K) (c := ⟨[tS, tI, tI, tB, tS], [tB], fun x => impl_VolAt_1 K x.1 x.2.1 x.2.2.1 x.2.2.2.1 x.2.2.2.2.1⟩) noNum (by kernel_rfl) (by kernel_rfl) (entOk_all (n := 101) entsOk (by kernel_rfl)) (G101 K)
theorem U103 (K : Nat) : Upto Tryz.prog (tab K) ents 103 := (U102 K).step (K := K) (c := ⟨[(.sl (.st .vol)), tS], [tI], fun x => slices_IndexFunc__impl_Vol_impl_Vol_impl_VolAt_1 K x.1 x.2.1⟩) noNum (by kernel_rfl) (by kernel_rfl) (entOk_all (n := 102) entsOk (by kernel_rfl)) (G102 K)
theorem U104 (K : Nat) : Upto Tryz.prog (tab K) ents 104 := (U103 K).step (K := K) (c := ⟨[(.sl tI), (.sl (.st .node)), (.sl (.st .age)), (.sl (.st .cell)), (.sl (.st .vol)), tI, tS], [tI], fun x => impl_VolAt K x.1 x.2.1 x.2.2.1 x.2.2.2.1 x.2.2.2.2.1 x.2.2.2.2.2.1 x.2.2.2.2.2.2.1⟩) noNum (by kernel_rfl) (by kernel_rfl) (entOk_all (n := 103) entsOk (by kernel_rfl)) (G103 K)
theorem U105 (K : Nat) : Upto Tryz.prog (tab K) ents 105 := (U104 K).step (K := K) (c := ⟨[tI, tI, tI], [tB], fun x => impl_within K x.1 x.2.1 x.2.2.1⟩) noNum (by kernel_rfl) (by kernel_rfl) (entOk_all (n := 104) entsOk (by kernel_rfl)) (G104 K)
theorem U106 (K : Nat) : Upto Tryz.prog (tab K) ents 106 := (U105 K).step (K := K) (c := ⟨[tI, tI, tI, tI, tI], [tB], fun x => impl_KeyOk K x.1 x.2.1 x.2.2.1 x.2.2.2.1 x.2.2.2.2.1⟩) noNum (by kernel_rfl) (by kernel_rfl) (entOk_all (n := 105) entsOk (by kernel_rfl)) (G105 K)
theorem U107 (K : Nat) : Upto Tryz.prog (tab K) ents 107 := (U106 K).step (K := K) (c := ⟨[tI, tI, tI, tI, tI, tI, tI, tI, tI, tI], [tB], fun x => impl_LessKey K x.1 x.2.1 x.2.2.1 x.2.2.2.1 x.2.2.2.2.1 x.2.2.2.2.2.1 x.2.2.2.2.2.2.1 x.2.2.2.2.2.2.2.1 x.2.2.2.2.2.2.2.2.1 x.2.2.2.2.2.2.2.2.2.1⟩) noNum (by kernel_rfl) (by kernel_rfl) (entOk_all (n := 106) entsOk (by kernel_rfl)) (G106 K)
theorem U108 (K : Nat) : Upto Tryz.prog (tab K) ents 108 := (U107 K).step (K := K) (c := ⟨[(.sl (.st .key))], [tB], fun x => impl_SetOk K x.1⟩) noNum (by kernel_rfl) (by kernel_rfl) (entOk_all (n := 107) entsOk (by kernel_rfl)) (G107 K)
theorem U109 (K : Nat) : Upto Tryz.prog (tab K) ents 109 := (U108 K).step (K := K) (c := ⟨[(.sl (.sl (.st .key)))], [tB], fun x => impl_NodeOk K x.1⟩) noNum (by kernel_rfl) (by kernel_rfl) (entOk_all (n := 108) entsOk (by kernel_rfl)) (G108 K)
theorem U110 (K : Nat) : Upto Tryz.prog (tab K) ents 110 := (U109 K).step (K := K) (c := ⟨[tI, tI], [tI], fun x => impl_SpotOf K x.1 x.2.1⟩) noNum (by kernel_rfl) (by kernel_rfl) (entOk_all (n := 109) entsOk (by kernel_rfl)) (G109 K)
theorem U111 (K : Nat) : Upto Tryz.prog (tab K) ents 111 := (U110 K).step (K := K) (c := ⟨[(.sl tI), (.sl (.st .node)), tI], [tB], fun x => impl_inBounds K x.1 x.2.1 x.2.2.1⟩) noNum (by kernel_rfl) (by kernel_rfl) (entOk_all (n := 110) entsOk (by kernel_rfl)) (G110 K)
theorem U112 (K : Nat) : Upto Tryz.prog (tab K) ents 112 := (U111 K).step (K := K) (c := ⟨[(.sl (.st .key))], [(.sl (.st .key))], fun x => impl_copyKeys K x.1⟩) noNum (by kernel_rfl) (by kernel_rfl) (entOk_all (n := 111) entsOk (by kernel_rfl)) (G111 K)
theorem U113 (K : Nat) : Upto Tryz.prog (tab K) ents 113 := (U112 K).step (K := K) (c := ⟨[tI, tI, tI, tI, tI, tI, tI, tI, tI, tI], [tB], fun x => impl_SameSpot K x.1 x.2.1 x.2.2.1 x.2.2.2.1 x.2.2.2.2.1 x.2.2.2.2.2.1 x.2.2.2.2.2.2.1 x.2.2.2.2.2.2.2.1 x.2.2.2.2.2.2.2.2.1 x.2.2.2.2.2.2.2.2.2.1⟩) noNum (by kernel_rfl) (by kernel_rfl) (entOk_all (n := 112) entsOk (by kernel_rfl)) (G112 K)
theorem U114 (K : Nat) : Upto Tryz.prog (tab K) ents 114 := (U113 K).step (K := K) (c := ⟨[(.sl (.st .key)), tI, tI, tI, tI, tI], [(.sl (.st .key))], fun x => impl_SetPut K x.1 x.2.1 x.2.2.1 x.2.2.2.1 x.2.2.2.2.1 x.2.2.2.2.2.1⟩) noNum (by kernel_rfl) (by kernel_rfl) (entOk_all (n := 113) entsOk (by kernel_rfl)) (G113 K)
theorem U115 (K : Nat) : Upto Tryz.prog (tab K) ents 115 := (U114 K).step (K := K) (c := ⟨[(.sl (.st .key)), (.sl (.st .key))], [(.sl (.st .key))], fun x => impl_MergeSets K x.1 x.2.1⟩) noNum (by kernel_rfl) (by kernel_rfl) (entOk_all (n := 114) entsOk (by kernel_rfl)) (G114 K)
theorem U116 (K : Nat) : Upto Tryz.prog (tab K) ents 116 := (U115 K).step (K := K) (c := ⟨[(.sl (.st .key))], [(.sl (.st .key))], fun x => impl_Drop K x.1⟩) noNum (by kernel_rfl) (by kernel_rfl) (entOk_all (n := 115) entsOk (by kernel_rfl)) (G115 K)
theorem U117 (K : Nat) : Upto Tryz.prog (tab K) ents 117 := (U116 K).step (K := K) (c := ⟨[(.sl (.sl (.st .key)))], [(.sl (.st .key))], fun x => impl_NodeKeys K x.1⟩) noNum (by kernel_rfl) (by kernel_rfl) (entOk_all (n := 116) entsOk (by kernel_rfl)) (G116 K)
theorem U118 (K : Nat) : Upto Tryz.prog (tab K) ents 118 := (U117 K).step (K := K) (c := ⟨[(.sl tI), (.sl (.st .node))], [tB], fun x => impl_TreeOk K x.1 x.2.1⟩) noNum (by kernel_rfl) (by kernel_rfl) (entOk_all (n := 117) entsOk (by kernel_rfl)) (G117 K)
theorem U119 (K : Nat) : Upto Tryz.prog (tab K) ents 119 := (U118 K).step (K := K) (c := ⟨[tI, tI, tI], [tB], fun x => impl_AgeAt_1 K x.1 x.2.1 x.2.2.1⟩) noNum (by kernel_rfl) (by kernel_rfl) (entOk_all (n := 118) entsOk (by kernel_rfl)) (G118 K)
theorem U120 (K : Nat) : Upto Tryz.prog (tab K) ents 120 := (U119 K).step (K := K) (c := ⟨[(.sl (.st .age)), tI], [tI], fun x => slices_IndexFunc__impl_Age_impl_Age_impl_AgeAt_1 K x.1 x.2.1⟩) noNum (by kernel_rfl) (by kernel_rfl) (entOk_all (n := 119) entsOk (by kernel_rfl)) (G119 K)
theorem U121 (K : Nat) : Upto Tryz.prog (tab K) ents 121 := (U120 K).step (K := K) (c := ⟨[(.sl (.st .age)), tI], [tI], fun x => impl_AgeAt K x.1 x.2.1⟩) noNum (by kernel_rfl) (by kernel_rfl) (entOk_all (n := 120) entsOk (by kernel_rfl)) (G120 K)
theorem U122 (K : Nat) : Upto Tryz.prog (tab K) ents 122 := (U121 K).step (K := K) (c := ⟨[(.sl (.st .age))], [tB], fun x => impl_AgesOk K x.1⟩) noNum (by kernel_rfl) (by kernel_rfl) (entOk_all (n := 121) entsOk (by kernel_rfl)) (G121 K)
theorem U123 (K : Nat) : Upto Tryz.prog (tab K) ents 123 := (U122 K).step (K := K) (c := ⟨[tI], [tB], fun x => impl_isWord K x.1⟩) noNum (by kernel_rfl) (by kernel_rfl) (entOk_all (n := 122) entsOk (by kernel_rfl)) (G122 K)
theorem U124 (K : Nat) : Upto Tryz.prog (tab K) ents 124 := (U123 K).step (K := K) (c := ⟨[(.sl (.st .cell))], [tB], fun x => impl_CellsOk K x.1⟩) noNum (by kernel_rfl) (by kernel_rfl) (entOk_all (n := 123) entsOk (by kernel_rfl)) (G123 K)
theorem U125 (K : Nat) : Upto Tryz.prog (tab K) ents 125 := (U124 K).step (K := K) (c := ⟨[tS], [tB], fun x => impl_NameOk K x.1⟩) noNum (by kernel_rfl) (by kernel_rfl) (entOk_all (n := 124) entsOk (by kernel_rfl)) (G124 K)
theorem U126 (K : Nat) : Upto Tryz.prog (tab K) ents 126 := (U125 K).step (K := K) (c := ⟨[(.sl (.st .age)), tI], [(.sl tI)], fun x => impl_KidsOf K x.1 x.2.1⟩) noNum (by kernel_rfl) (by kernel_rfl) (entOk_all (n := 125) entsOk (by kernel_rfl)) (G125 K)
theorem U127 (K : Nat) : Upto Tryz.prog (tab K) ents 127 := (U126 K).step (K := K) (c := ⟨[tS, tI, tI, tB, tS, tI, tI, tB], [tB], fun x => impl_volsOk_1 K x.1 x.2.1 x.2.2.1 x.2.2.2.1 x.2.2.2.2.1 x.2.2.2.2.2.1 x.2.2.2.2.2.2.1 x.2.2.2.2.2.2.2.1⟩) noNum (by kernel_rfl) (by kernel_rfl) (entOk_all (n := 126) entsOk (by kernel_rfl)) (G126 K)
theorem U128 (K : Nat) : Upto Tryz.prog (tab K) ents 128 := (U127 K).step (K := K) (c := ⟨[(.sl (.st .vol)), tS, tI, tI, tB], [tI], fun x => slices_IndexFunc__impl_Vol_impl_Vol_impl_volsOk_1 K x.1 x.2.1 x.2.2.1 x.2.2.2.1 x.2.2.2.2.1⟩) noNum (by kernel_rfl) (by kernel_rfl) (entOk_all (n := 127) entsOk (by kernel_rfl)) (G127 K)
theorem U129 (K : Nat) : Upto Tryz.prog (tab K) ents 129 := (U128 K).step (K := K) (c := ⟨[(.sl (.st .vol)), tS, tI, tI, tB], [tB], fun x => slices_ContainsFunc__impl_Vol_impl_Vol_impl_volsOk_1 K x.1 x.2.1 x.2.2.1 x.2.2.2.1 x.2.2.2.2.1⟩) noNum (by kernel_rfl) (by kernel_rfl) (entOk_all (n := 128) entsOk (by kernel_rfl)) (G128 K)
theorem U130 (K : Nat) : Upto Tryz.prog (tab K) ents 130 := (U129 K).step (K := K) (c := ⟨[(.sl tI), (.sl (.st .node)), (.sl (.st .age)), (.sl (.st .cell)), (.sl (.st .vol)), tI], [tB], fun x => impl_volsOk K x.1 x.2.1 x.2.2.1 x.2.2.2.1 x.2.2.2.2.1 x.2.2.2.2.2.1⟩) noNum (by kernel_rfl) (by kernel_rfl) (entOk_all (n := 129) entsOk (by kernel_rfl)) (G129 K)
theorem U131 (K : Nat) : Upto Tryz.prog (tab K) ents 131 := (U130 K).step (K := K) (c := ⟨[(.sl tI), (.sl (.st .node))], [(.sl (.st .key))], fun x => impl_TreeKeys K x.1 x.2.1⟩) noNum (by kernel_rfl) (by kernel_rfl) (entOk_all (n := 130) entsOk (by kernel_rfl)) (G130 K)
theorem U132 (K : Nat) : Upto Tryz.prog (tab K) ents 132 := (U131 K).step (K := K) (c := ⟨[(.sl (.st .cell)), tI, tI], [tI, tB], fun x => impl_CellAt K x.1 x.2.1 x.2.2.1⟩) noNum (by kernel_rfl) (by kernel_rfl) (entOk_all (n := 131) entsOk (by kernel_rfl)) (G131 K)
theorem U133 (K : Nat) : Upto Tryz.prog (tab K) ents 133 := (U132 K).step (K := K) (c := ⟨[(.sl (.st .cell))], [tI], fun x => impl_UsedCells K x.1⟩) noNum (by kernel_rfl) (by kernel_rfl) (entOk_all (n := 132) entsOk (by kernel_rfl)) (G132 K)
theorem U134 (K : Nat) : Upto Tryz.prog (tab K) ents 134 := (U133 K).step (K := K) (c := ⟨[(.sl tI), (.sl (.st .node)), (.sl (.st .age)), (.sl (.st .cell)), (.sl (.st .vol)), tI], [tB], fun x => impl_keysFit K x.1 x.2.1 x.2.2.1 x.2.2.2.1 x.2.2.2.2.1 x.2.2.2.2.2.1⟩) noNum (by kernel_rfl) (by kernel_rfl) (entOk_all (n := 133) entsOk (by kernel_rfl)) (G133 K)
theorem U135 (K : Nat) : Upto Tryz.prog (tab K) ents 135 := (U134 K).step (K := K) (c := ⟨[(.sl tI), (.sl (.st .node)), (.sl (.st .age)), (.sl (.st .cell)), (.sl (.st .vol)), tI], [tB], fun x => impl_PoolOk K x.1 x.2.1 x.2.2.1 x.2.2.2.1 x.2.2.2.2.1 x.2.2.2.2.2.1⟩) noNum (by kernel_rfl) (by kernel_rfl) (entOk_all (n := 134) entsOk (by kernel_rfl)) (G134 K)
theorem U136 (K : Nat) : Upto Tryz.prog (tab K) ents 136 := (U135 K).step (K := K) (c := ⟨[(.sl tI), (.sl (.st .node)), (.sl (.st .age)), (.sl (.st .cell)), (.sl (.st .vol)), tI, tS, tI, tB], [tI, tI], fun x => impl_blockCode K x.1 x.2.1 x.2.2.1 x.2.2.2.1 x.2.2.2.2.1 x.2.2.2.2.2.1 x.2.2.2.2.2.2.1 x.2.2.2.2.2.2.2.1 x.2.2.2.2.2.2.2.2.1⟩) noNum (by kernel_rfl) (by kernel_rfl) (entOk_all (n := 135) entsOk (by kernel_rfl)) (G135 K)
theorem U137 (K : Nat) : Upto Tryz.prog (tab K) ents 137 := (U136 K).step (K := K) (c := ⟨[(.sl (.st .age)), tI], [(.sl tI)], fun x => impl_PathOf K x.1 x.2.1⟩) noNum (by kernel_rfl) (by kernel_rfl) (entOk_all (n := 136) entsOk (by kernel_rfl)) (G136 K)
theorem U138 (K : Nat) : Upto Tryz.prog (tab K) ents 138 := (U137 K).step (K := K) (c := ⟨[(.sl tI), (.sl (.st .node)), tI], [(.sl (.st .key))], fun x => impl_KeysOf K x.1 x.2.1 x.2.2.1⟩) noNum (by kernel_rfl) (by kernel_rfl) (entOk_all (n := 137) entsOk (by kernel_rfl)) (G137 K)
theorem U139 (K : Nat) : Upto Tryz.prog (tab K) ents 139 := (U138 K).step (K := K) (c := ⟨[(.sl tI), tI], [tI], fun x => slices_Index__int_int K x.1 x.2.1⟩) noNum (by kernel_rfl) (by kernel_rfl) (entOk_all (n := 138) entsOk (by kernel_rfl)) (G138 K)
theorem U140 (K : Nat) : Upto Tryz.prog (tab K) ents 140 := (U139 K).step (K := K) (c := ⟨[(.sl tI), tI], [tB], fun x => slices_Contains__int_int K x.1 x.2.1⟩) noNum (by kernel_rfl) (by kernel_rfl) (entOk_all (n := 139) entsOk (by kernel_rfl)) (G139 K)
theorem U141 (K : Nat) : Upto Tryz.prog (tab K) ents 141 := (U140 K).step (K := K) (c := ⟨[(.sl tI), (.sl (.st .node)), tI, (.sl tI)], [tI, tI, tI, tI, tI, tB], fun x => impl_seenOn K x.1 x.2.1 x.2.2.1 x.2.2.2.1⟩) noNum (by kernel_rfl) (by kernel_rfl) (entOk_all (n := 140) entsOk (by kernel_rfl)) (G140 K)
theorem U142 (K : Nat) : Upto Tryz.prog (tab K) ents 142 := (U141 K).step (K := K) (c := ⟨[(.sl tI), (.sl (.st .node)), (.sl (.st .age)), tI, tI], [tI, tI, tI, tI, tI, tB], fun x => impl_Seen K x.1 x.2.1 x.2.2.1 x.2.2.2.1 x.2.2.2.2.1⟩) noNum (by kernel_rfl) (by kernel_rfl) (entOk_all (n := 141) entsOk (by kernel_rfl)) (G141 K)
theorem U143 (K : Nat) : Upto Tryz.prog (tab K) ents 143 := (U142 K).step (K := K) (c := ⟨[(.sl tI), (.sl (.st .node)), (.sl (.st .age)), (.sl (.st .cell)), (.sl (.st .vol)), tI, tI, tI], [tI], fun x => impl_BlockOf K x.1 x.2.1 x.2.2.1 x.2.2.2.1 x.2.2.2.2.1 x.2.2.2.2.2.1 x.2.2.2.2.2.2.1 x.2.2.2.2.2.2.2.1⟩) noNum (by kernel_rfl) (by kernel_rfl) (entOk_all (n := 142) entsOk (by kernel_rfl)) (G142 K)
theorem U144 (K : Nat) : Upto Tryz.prog (tab K) ents 144 := (U143 K).step (K := K) (c := ⟨[(.sl tI), (.sl (.st .node)), (.sl (.st .age)), (.sl (.st .cell)), (.sl (.st .vol)), tI, tS, tI], [tI, tI], fun x => impl_Read K x.1 x.2.1 x.2.2.1 x.2.2.2.1 x.2.2.2.2.1 x.2.2.2.2.2.1 x.2.2.2.2.2.2.1 x.2.2.2.2.2.2.2.1⟩) noNum (by kernel_rfl) (by kernel_rfl) (entOk_all (n := 143) entsOk (by kernel_rfl)) (G143 K)
theorem U145 (K : Nat) : Upto Tryz.prog (tab K) ents 145 := (U144 K).step (K := K) (c := ⟨[(.sl tU), tI], [tI], fun x => laws_at K x.1 x.2.1⟩) noNum (by kernel_rfl) (by kernel_rfl) (entOk_all (n := 144) entsOk (by kernel_rfl)) (G144 K)
theorem U146 (K : Nat) : Upto Tryz.prog (tab K) ents 146 := (U145 K).step (K := K) (c := ⟨[(.sl tI)], [(.sl tI)], fun x => impl_copyInts K x.1⟩) noNum (by kernel_rfl) (by kernel_rfl) (entOk_all (n := 145) entsOk (by kernel_rfl)) (G145 K)
theorem U147 (K : Nat) : Upto Tryz.prog (tab K) ents 147 := (U146 K).step (K := K) (c := ⟨[(.sl (.sl (.st .key)))], [(.sl (.sl (.st .key)))], fun x => impl_copyNode K x.1⟩) noNum (by kernel_rfl) (by kernel_rfl) (entOk_all (n := 146) entsOk (by kernel_rfl)) (G146 K)
theorem U148 (K : Nat) : Upto Tryz.prog (tab K) ents 148 := (U147 K).step (K := K) (c := ⟨[(.sl tI), (.sl (.st .node))], [(.sl tI), (.sl (.st .node))], fun x => impl_copyTree K x.1 x.2.1⟩) noNum (by kernel_rfl) (by kernel_rfl) (entOk_all (n := 147) entsOk (by kernel_rfl)) (G147 K)
theorem U149 (K : Nat) : Upto Tryz.prog (tab K) ents 149 := (U148 K).step (K := K) (c := ⟨[(.sl (.st .age))], [(.sl (.st .age))], fun x => impl_copyAges K x.1⟩) noNum (by kernel_rfl) (by kernel_rfl) (entOk_all (n := 148) entsOk (by kernel_rfl)) (G148 K)
theorem U150 (K : Nat) : Upto Tryz.prog (tab K) ents 150 := (U149 K).step (K := K) (c := ⟨[(.sl (.st .cell))], [(.sl (.st .cell))], fun x => impl_copyCells K x.1⟩) noNum (by kernel_rfl) (by kernel_rfl) (entOk_all (n := 149) entsOk (by kernel_rfl)) (G149 K)
theorem U151 (K : Nat) : Upto Tryz.prog (tab K) ents 151 := (U150 K).step (K := K) (c := ⟨[(.sl tI), (.sl (.st .node)), (.sl (.st .age)), (.sl (.st .cell)), (.sl (.st .vol)), tI], [(.sl tI), (.sl (.st .node)), (.sl (.st .age)), (.sl (.st .cell)), (.sl (.st .vol)), tI], fun x => impl_copyPool K x.1 x.2.1 x.2.2.1 x.2.2.2.1 x.2.2.2.2.1 x.2.2.2.2.2.1⟩) noNum (by kernel_rfl) (by kernel_rfl) (entOk_all (n := 150) entsOk (by kernel_rfl)) (G150 K)
theorem U152 (K : Nat) : Upto Tryz.prog (tab K) ents 152 := (U151 K).step (K := K) (c := ⟨[(.sl (.st .cell))], [tI], fun x => impl_freeAt K x.1⟩) noNum (by kernel_rfl) (by kernel_rfl) (entOk_all (n := 151) entsOk (by kernel_rfl)) (G151 K)
theorem U153 (K : Nat) : Upto Tryz.prog (tab K) ents 153 := (U152 K).step (K := K) (c := ⟨[(.sl (.st .cell)), tI], [(.sl (.st .cell)), tI, tB], fun x => impl_TakeCell K x.1 x.2.1⟩) noNum (by kernel_rfl) (by kernel_rfl) (entOk_all (n := 152) entsOk (by kernel_rfl)) (G152 K)
theorem U154 (K : Nat) : Upto Tryz.prog (tab K) ents 154 := (U153 K).step (K := K) (c := ⟨[(.sl tI), (.sl (.st .node)), tI, tI], [tI], fun x => impl_WhereIn K x.1 x.2.1 x.2.2.1 x.2.2.2.1⟩) noNum (by kernel_rfl) (by kernel_rfl) (entOk_all (n := 153) entsOk (by kernel_rfl)) (G153 K)
theorem U155 (K : Nat) : Upto Tryz.prog (tab K) ents 155 := (U154 K).step (K := K) (c := ⟨[(.sl (.st .key)), tI, tI], [tI, tI, tI, tI, tI, tB], fun x => impl_SetAt K x.1 x.2.1 x.2.2.1⟩) noNum (by kernel_rfl) (by kernel_rfl) (entOk_all (n := 154) entsOk (by kernel_rfl)) (G154 K)
theorem U156 (K : Nat) : Upto Tryz.prog (tab K) ents 156 := (U155 K).step (K := K) (c := ⟨[(.sl (.sl (.st .key))), tI, tI], [tI, tI, tI, tI, tI, tB], fun x => impl_NodeAt K x.1 x.2.1 x.2.2.1⟩) noNum (by kernel_rfl) (by kernel_rfl) (entOk_all (n := 155) entsOk (by kernel_rfl)) (G155 K)
theorem U157 (K : Nat) : Upto Tryz.prog (tab K) ents 157 := (U156 K).step (K := K) (c := ⟨[(.sl tI), (.sl (.st .node)), tI, tI], [tI, tI, tI, tI, tI, tB], fun x => impl_TreeAt K x.1 x.2.1 x.2.2.1 x.2.2.2.1⟩) noNum (by kernel_rfl) (by kernel_rfl) (entOk_all (n := 156) entsOk (by kernel_rfl)) (G156 K)
theorem U158 (K : Nat) : Upto Tryz.prog (tab K) ents 158 := (U157 K).step (K := K) (c := ⟨[(.sl (.sl (.st .key))), tI, tI, tI, tI, tI], [(.sl (.st .key))], fun x => impl_keysWith K x.1 x.2.1 x.2.2.1 x.2.2.2.1 x.2.2.2.2.1 x.2.2.2.2.2.1⟩) noNum (by kernel_rfl) (by kernel_rfl) (entOk_all (n := 157) entsOk (by kernel_rfl)) (G157 K)
theorem U159 (K : Nat) : Upto Tryz.prog (tab K) ents 159 := (U158 K).step (K := K) (c := ⟨[(.sl (.st .key))], [(.sl (.sl (.st .key)))], fun x => impl_NodeNew K x.1⟩) noNum (by kernel_rfl) (by kernel_rfl) (entOk_all (n := 158) entsOk (by kernel_rfl)) (G158 K)
theorem U160 (K : Nat) : Upto Tryz.prog (tab K) ents 160 := (U159 K).step (K := K) (c := ⟨[(.sl (.sl (.st .key))), tI, tI, tI, tI, tI], [(.sl (.sl (.st .key))), tB], fun x => impl_NodePut K x.1 x.2.1 x.2.2.1 x.2.2.2.1 x.2.2.2.2.1 x.2.2.2.2.2.1⟩) noNum (by kernel_rfl) (by kernel_rfl) (entOk_all (n := 159) entsOk (by kernel_rfl)) (G159 K)
theorem U161 (K : Nat) : Upto Tryz.prog (tab K) ents 161 := (U160 K).step (K := K) (c := ⟨[(.sl tI), (.sl (.st .node)), tI, tI, (.sl tI), (.sl (.st .node))], [(.sl tI), (.sl (.st .node))], fun x => impl_replaced K x.1 x.2.1 x.2.2.1 x.2.2.2.1 x.2.2.2.2.1 x.2.2.2.2.2.1⟩) noNum (by kernel_rfl) (by kernel_rfl) (entOk_all (n := 160) entsOk (by kernel_rfl)) (G160 K)
theorem U162 (K : Nat) : Upto Tryz.prog (tab K) ents 162 := (U161 K).step (K := K) (c := ⟨[(.sl tI), (.sl (.st .node))], [(.sl tI), (.sl (.st .node))], fun x => impl_merged_o K x.1 x.2.1⟩) noNum (by kernel_rfl) (by kernel_rfl) (entOk_all (n := 161) entsOk (by kernel_rfl)) (G161 K)
theorem U163 (K : Nat) : Upto Tryz.prog (tab K) ents 163 := (U162 K).step (K := K) (c := ⟨[(.sl tI), (.sl (.st .node)), tI, tI, tI, tI, tI], [(.sl tI), (.sl (.st .node)), tB], fun x => impl_TreePut K x.1 x.2.1 x.2.2.1 x.2.2.2.1 x.2.2.2.2.1 x.2.2.2.2.2.1 x.2.2.2.2.2.2.1⟩) noNum (by kernel_rfl) (by kernel_rfl) (entOk_all (n := 162) entsOk (by kernel_rfl)) (G162 K)
theorem U164 (K : Nat) : Upto Tryz.prog (tab K) ents 164 := (U163 K).step (K := K) (c := ⟨[(.sl (.st .cell)), tI], [(.sl (.st .cell))], fun x => impl_FreeCell K x.1 x.2.1⟩) noNum (by kernel_rfl) (by kernel_rfl) (entOk_all (n := 163) entsOk (by kernel_rfl)) (G163 K)
theorem U165 (K : Nat) : Upto Tryz.prog (tab K) ents 165 := (U164 K).step (K := K) (c := ⟨[(.sl tI), (.sl (.st .node)), (.sl (.st .age)), (.sl (.st .cell)), (.sl (.st .vol)), tI, tI, tI, tI, tI, tI], [tB, (.sl tI), (.sl (.st .node)), (.sl (.st .cell))], fun x => impl_Pool_putKey K x.1 x.2.1 x.2.2.1 x.2.2.2.1 x.2.2.2.2.1 x.2.2.2.2.2.1 x.2.2.2.2.2.2.1 x.2.2.2.2.2.2.2.1 x.2.2.2.2.2.2.2.2.1 x.2.2.2.2.2.2.2.2.2.1 x.2.2.2.2.2.2.2.2.2.2.1⟩) noNum (by kernel_rfl) (by kernel_rfl) (entOk_all (n := 164) entsOk (by kernel_rfl)) (G164 K)
theorem U166 (K : Nat) : Upto Tryz.prog (tab K) ents 166 := (U165 K).step (K := K) (c := ⟨[(.sl tI), (.sl (.st .node)), (.sl (.st .age)), (.sl (.st .cell)), (.sl (.st .vol)), tI, (.sl tI), (.sl (.st .node)), (.sl (.st .age)), (.sl (.st .cell)), (.sl (.st .vol)), tI, tB], [(.sl tI), (.sl (.st .node)), (.sl (.st .age)), (.sl (.st .cell)), (.sl (.st .vol)), tI, tI], fun x => impl_settled_ro K x.1 x.2.1 x.2.2.1 x.2.2.2.1 x.2.2.2.2.1 x.2.2.2.2.2.1 x.2.2.2.2.2.2.1 x.2.2.2.2.2.2.2.1 x.2.2.2.2.2.2.2.2.1 x.2.2.2.2.2.2.2.2.2.1 x.2.2.2.2.2.2.2.2.2.2.1 x.2.2.2.2.2.2.2.2.2.2.2.1 x.2.2.2.2.2.2.2.2.2.2.2.2.1⟩) noNum (by kernel_rfl) (by kernel_rfl) (entOk_all (n := 165) entsOk (by kernel_rfl)) (G165 K)
theorem U167 (K : Nat) : Upto Tryz.prog (tab K) ents 167 := (U166 K).step (K := K) (c := ⟨[(.sl tI), (.sl (.st .node)), (.sl (.st .age)), (.sl (.st .cell)), (.sl (.st .vol)), tI, tS, tI, tI], [(.sl tI), (.sl (.st .node)), (.sl (.st .age)), (.sl (.st .cell)), (.sl (.st .vol)), tI, tI], fun x => impl_Write K x.1 x.2.1 x.2.2.1 x.2.2.2.1 x.2.2.2.2.1 x.2.2.2.2.2.1 x.2.2.2.2.2.2.1 x.2.2.2.2.2.2.2.1 x.2.2.2.2.2.2.2.2.1⟩) noNum (by kernel_rfl) (by kernel_rfl) (entOk_all (n := 166) entsOk (by kernel_rfl)) (G166 K)
theorem U168 (K : Nat) : Upto Tryz.prog (tab K) ents 168 := (U167 K).step (K := K) (c := ⟨[(.sl tI), (.sl tI)], [tB], fun x => laws_sameInts K x.1 x.2.1⟩) noNum (by kernel_rfl) (by kernel_rfl) (entOk_all (n := 167) entsOk (by kernel_rfl)) (G167 K)
theorem U169 (K : Nat) : Upto Tryz.prog (tab K) ents 169 := (U168 K).step (K := K) (c := ⟨[(.sl (.st .key)), (.sl (.st .key))], [tB], fun x => laws_sameKeys K x.1 x.2.1⟩) noNum (by kernel_rfl) (by kernel_rfl) (entOk_all (n := 168) entsOk (by kernel_rfl)) (G168 K)
theorem U170 (K : Nat) : Upto Tryz.prog (tab K) ents 170 := (U169 K).step (K := K) (c := ⟨[(.sl (.sl (.st .key))), (.sl (.sl (.st .key)))], [tB], fun x => laws_sameNode K x.1 x.2.1⟩) noNum (by kernel_rfl) (by kernel_rfl) (entOk_all (n := 169) entsOk (by kernel_rfl)) (G169 K)
theorem U171 (K : Nat) : Upto Tryz.prog (tab K) ents 171 := (U170 K).step (K := K) (c := ⟨[(.sl tI), (.sl (.st .node)), (.sl tI), (.sl (.st .node))], [tB], fun x => laws_sameTree K x.1 x.2.1 x.2.2.1 x.2.2.2.1⟩) noNum (by kernel_rfl) (by kernel_rfl) (entOk_all (n := 170) entsOk (by kernel_rfl)) (G170 K)
theorem U172 (K : Nat) : Upto Tryz.prog (tab K) ents 172 := (U171 K).step (K := K) (c := ⟨[(.sl (.st .age)), (.sl (.st .age))], [tB], fun x => laws_sameAges K x.1 x.2.1⟩) noNum (by kernel_rfl) (by kernel_rfl) (entOk_all (n := 171) entsOk (by kernel_rfl)) (G171 K)
theorem U173 (K : Nat) : Upto Tryz.prog (tab K) ents 173 := (U172 K).step (K := K) (c := ⟨[(.sl (.st .cell)), (.sl (.st .cell))], [tB], fun x => laws_sameCells K x.1 x.2.1⟩) noNum (by kernel_rfl) (by kernel_rfl) (entOk_all (n := 172) entsOk (by kernel_rfl)) (G172 K)
theorem U174 (K : Nat) : Upto Tryz.prog (tab K) ents 174 := (U173 K).step (K := K) (c := ⟨[(.sl tI), (.sl (.st .node)), (.sl (.st .age)), (.sl (.st .cell)), (.sl (.st .vol)), tI, (.sl tI), (.sl (.st .node)), (.sl (.st .age)), (.sl (.st .cell)), (.sl (.st .vol)), tI], [tB], fun x => laws_samePool K x.1 x.2.1 x.2.2.1 x.2.2.2.1 x.2.2.2.2.1 x.2.2.2.2.2.1 x.2.2.2.2.2.2.1 x.2.2.2.2.2.2.2.1 x.2.2.2.2.2.2.2.2.1 x.2.2.2.2.2.2.2.2.2.1 x.2.2.2.2.2.2.2.2.2.2.1 x.2.2.2.2.2.2.2.2.2.2.2.1⟩) noNum (by kernel_rfl) (by kernel_rfl) (entOk_all (n := 173) entsOk (by kernel_rfl)) (G173 K)
theorem U175 (K : Nat) : Upto Tryz.prog (tab K) ents 175 := (U174 K).step (K := K) (c := ⟨[(.sl tI), (.sl (.st .node)), (.sl (.st .age)), tI, tI], [tI, tI, tI, tI, tI, tB], fun x => impl_SeenAbove K x.1 x.2.1 x.2.2.1 x.2.2.2.1 x.2.2.2.2.1⟩) noNum (by kernel_rfl) (by kernel_rfl) (entOk_all (n := 174) entsOk (by kernel_rfl)) (G174 K)
theorem U176 (K : Nat) : Upto Tryz.prog (tab K) ents 176 := (U175 K).step (K := K) (c := ⟨[(.sl tI), (.sl (.st .node)), (.sl (.st .age)), (.sl (.st .cell)), (.sl (.st .vol)), tI, tI, tI], [tB, (.sl tI), (.sl (.st .node)), (.sl (.st .cell))], fun x => impl_Pool_discard K x.1 x.2.1 x.2.2.1 x.2.2.2.1 x.2.2.2.2.1 x.2.2.2.2.2.1 x.2.2.2.2.2.2.1 x.2.2.2.2.2.2.2.1⟩) noNum (by kernel_rfl) (by kernel_rfl) (entOk_all (n := 175) entsOk (by kernel_rfl)) (G175 K)
theorem U177 (K : Nat) : Upto Tryz.prog (tab K) ents 177 := (U176 K).step (K := K) (c := ⟨[(.sl tI), (.sl (.st .node)), (.sl (.st .age)), (.sl (.st .cell)), (.sl (.st .vol)), tI, tS, tI], [(.sl tI), (.sl (.st .node)), (.sl (.st .age)), (.sl (.st .cell)), (.sl (.st .vol)), tI, tI], fun x => impl_Discard K x.1 x.2.1 x.2.2.1 x.2.2.2.1 x.2.2.2.2.1 x.2.2.2.2.2.1 x.2.2.2.2.2.2.1 x.2.2.2.2.2.2.2.1⟩) noNum (by kernel_rfl) (by kernel_rfl) (entOk_all (n := 176) entsOk (by kernel_rfl)) (G176 K)
theorem U178 (K : Nat) : Upto Tryz.prog (tab K) ents 178 := (U177 K).step (K := K) (c := ⟨[(.sl tU)], [tB], fun x => laws_FnReads_v K x.1⟩) noNum (by kernel_rfl) (by kernel_rfl) (entOk_all (n := 177) entsOk (by kernel_rfl)) (G177 K)
end Go.Proofs.Fw.R1
set_option linter.unusedVariables false
set_option linter.unusedSimpArgs false
namespace Go.Proofs.Fw
variable {R α : Type}
@[simp] theorem br_true (a b : Option R) : br true a b = a := rfl
@[simp] theorem br_false (a b : Option R) : br false a b = b := rfl
theorem br_dec (p : Prop) [Decidable p] (a b : Option R) : br (decide p) a b = if p then a else b := by
  by_cases h : p <;> simp [h]
@[simp] theorem br_not (c : Bool) (a b : Option R) : br (!c) a b = br c b a := by cases c <;> rfl
@[simp] theorem chk_true' (k : Option R) : chk true k = k := rfl
@[simp] theorem chk_false' (k : Option R) : chk false k = none := rfl
@[simp] theorem bnd_some' (x : α) (k : α → Option R) : bnd (some x) k = k x := rfl
@[simp] theorem joinK_eq (f : α → Option R) (g : (α → Option R) → Option R) : joinK f g = g f := rfl
theorem inK_nat {xs : List α} {j : Nat} (h : j < xs.length) (k : Option R) : inK xs (j : Int) k = k := by
  unfold inK
  rw [decide_eq_true (by omega : (0 : Int) ≤ j), decide_eq_true (by omega : (j : Int) < xs.length)]
  rfl
theorem idxK_nat' {xs : List α} {j : Nat} {x : α} (h : xs[j]? = some x) (k : α → Option R) : idxK xs (j : Int) k = k x := by
  unfold idxK
  rw [decide_eq_true (by omega : (0 : Int) ≤ j)]
  show bnd xs[(j : Int).toNat]? k = _
  rw [Int.toNat_natCast, h]
  rfl
theorem idxK_get {xs : List α} {j : Nat} (h : j < xs.length) (k : α → Option R) : idxK xs (j : Int) k = k xs[j] := idxK_nat' (List.getElem?_eq_getElem h) k
theorem appK_ok {xs ys : List α} (h : xs.length + ys.length ≤ 68719476736) (k : List α → Option R) : appK xs ys k = k (xs ++ ys) := by
  unfold appK
  rw [decide_eq_true (by unfold LIM; exact h)]
  rfl
theorem subK_ok {xs : List α} {lo hi : Int} {a b : Nat} (e1 : lo = a) (e2 : hi = b) (h1 : a ≤ b) (h2 : b ≤ xs.length) (k : List α → Option R) : subK xs lo hi k = k ((xs.take b).drop a) := by
  subst e1 e2
  unfold subK
  rw [decide_eq_true (by omega : (0 : Int) ≤ (a : Int)), decide_eq_true (by omega : (a : Int) ≤ b), decide_eq_true (by omega : (b : Int) ≤ xs.length)]
  rfl
theorem makeK_ok {z : α} {n : Int} {m : Nat} (e : n = m) (h : m ≤ 68719476736) (k : List α → Option R) : makeK z n k = k (List.replicate m z) := by
  subst e
  unfold makeK
  rw [decide_eq_true (by omega : (0 : Int) ≤ (m : Int)), decide_eq_true (by unfold LIM; omega : (m : Int) ≤ (LIM : Nat))]
  rfl
theorem wr_of {n : Int} (h1 : -9223372036854775808 ≤ n) (h2 : n < 9223372036854775808) : IntKind.wrap .i64 n = n := IntWalk.i64_in n ⟨h1, by omega⟩
theorem wr_succ {j : Nat} (h : j < 9223372036854775807) : IntKind.wrap .i64 ((j : Int) + 1) = ((j + 1 : Nat) : Int) := by
  rw [wr_of (by omega) (by omega)]
  omega
theorem wr_nat {j : Nat} (h : j < 9223372036854775808) : IntKind.wrap .i64 (j : Int) = (j : Int) := wr_of (by omega) (by omega)
theorem wr_pred {i : Nat} (h : i < 9223372036854775807) : wr (((i + 1 : Nat) : Int) - 1) = (i : Int) := by
  show IntKind.wrap .i64 _ = _
  rw [wr_of (by omega) (by omega)]; omega
theorem wr_eq {n : Int} {m : Nat} (e : n = m) (h : m < 9223372036854775807) : wr n = (m : Int) := by
  subst e; exact wr_of (by omega) (by omega)
theorem loop_ix {S σ : Type} {K : Nat} {F : (S → Option R) → S → Option R} (mk : Nat → σ → S) (n : Nat) (Inv : Nat → σ → Prop) (G : Nat → σ → Option R)
    (hstep : ∀ (rec : S → Option R) (j : Nat) (a : σ), j < n → Inv j a → (∀ a', Inv (j + 1) a' → rec (mk (j + 1) a') = G (j + 1) a') → F rec (mk j a) = G j a)
    (hend : ∀ (rec : S → Option R) (a : σ), Inv n a → F rec (mk n a) = G n a) {j0 : Nat} {a0 : σ} (hle : j0 ≤ n) (hK : n < K) (h0 : Inv j0 a0) : loopFix K F (mk j0 a0) = G j0 a0 := by
  have key : ∀ (m j : Nat) (a : σ) (K : Nat), m + j = n → m < K → Inv j a → loopFix K F (mk j a) = G j a := by
    intro m
    induction m with
    | zero =>
      intro j a K h1 h2 h3
      obtain ⟨K', rfl⟩ : ∃ K', K = K' + 1 := ⟨K - 1, by omega⟩
      have : j = n := by omega
      subst this
      exact hend _ a h3
    | succ m ih =>
      intro j a K h1 h2 h3
      obtain ⟨K', rfl⟩ : ∃ K', K = K' + 1 := ⟨K - 1, by omega⟩
      exact hstep _ j a (by omega) h3 fun a' h => ih (j + 1) a' K' (by omega) (by omega) h
  exact key (n - j0) j0 a0 K (by omega) (by omega) h0
theorem loop_dn {S σ : Type} {K : Nat} {F : (S → Option R) → S → Option R} (mk : Nat → σ → S) (Inv : Nat → σ → Prop) (G : Nat → σ → Option R)
    (hstep : ∀ (rec : S → Option R) (j : Nat) (a : σ), Inv (j + 1) a → (∀ a', Inv j a' → rec (mk j a') = G j a') → F rec (mk (j + 1) a) = G (j + 1) a)
    (hend : ∀ (rec : S → Option R) (a : σ), Inv 0 a → F rec (mk 0 a) = G 0 a) {j0 : Nat} {a0 : σ} (hK : j0 < K) (h0 : Inv j0 a0) : loopFix K F (mk j0 a0) = G j0 a0 := by
  have key : ∀ (j : Nat) (a : σ) (K : Nat), j < K → Inv j a → loopFix K F (mk j a) = G j a := by
    intro j
    induction j with
    | zero =>
      intro a K h2 h3
      obtain ⟨K', rfl⟩ : ∃ K', K = K' + 1 := ⟨K - 1, by omega⟩
      exact hend _ a h3
    | succ m ih =>
      intro a K h2 h3
      obtain ⟨K', rfl⟩ : ∃ K', K = K' + 1 := ⟨K - 1, by omega⟩
      exact hstep _ m a h3 fun a' h => ih a' K' (by omega) h
  exact key j0 a0 K hK h0
theorem loop_mu {S : Type} {K : Nat} {F : (S → Option R) → S → Option R} (Inv : S → Prop) (μ : S → Nat) (G : S → Option R)
    (hstep : ∀ (rec : S → Option R) (s : S), Inv s → (∀ s', Inv s' → μ s' < μ s → rec s' = G s') → F rec s = G s) {s : S} (hK : μ s < K) (h0 : Inv s) : loopFix K F s = G s := by
  have key : ∀ (n : Nat) (s : S) (K : Nat), μ s = n → n < K → Inv s → loopFix K F s = G s := by
    intro n
    induction n using Nat.strongRecOn with
    | _ n ih =>
      intro s K h1 h2 h3
      obtain ⟨K', rfl⟩ : ∃ K', K = K' + 1 := ⟨K - 1, by omega⟩
      exact hstep _ s h3 fun s' h4 h5 => ih (μ s') (by omega) s' K' rfl (by omega) h4
  exact key _ s K rfl hK h0
@[simp] theorem key_eta (k : Key) : (⟨k.blk, k.age, k.kind, k.cell, k.gen⟩ : Key) = k := rfl
theorem drop_cons {l : List α} {j : Nat} (h : j < l.length) : l.drop j = l[j] :: l.drop (j + 1) := List.drop_eq_getElem_cons h
end Go.Proofs.Fw
set_option linter.unusedVariables false
set_option linter.unusedSimpArgs false
namespace Go.Proofs.Fw.R1
open Go.Proofs.Fw
def inR (x a b : Int) : Bool := decide (a ≤ x) && decide (x ≤ b)
def keyOk (k : Key) : Bool := inR k.blk 0 15 && inR k.age 1 60 && inR k.kind 0 2 && (if k.kind = 1 then inR k.cell 0 23 && inR k.gen 0 999 else decide (k.cell = 0) && decide (k.gen = 0))
def lessKey (a b : Key) : Bool := if a.blk = b.blk then decide (a.age < b.age) else decide (a.blk < b.blk)
def sameSpot (a b : Key) : Bool := decide (a.blk = b.blk) && decide (a.age = b.age)
theorem spec_l1In_eq (K : Nat) (x a b : Int) : spec_l1In K x a b = some (inR x a b, ()) := by
  unfold spec_l1In inR
  by_cases h : a ≤ x <;> simp [br_dec, h]
theorem impl_within_eq (K : Nat) (x a b : Int) : impl_within K x a b = some (inR x a b, ()) := by
  unfold impl_within inR
  by_cases h : a ≤ x <;> simp [br_dec, h]
theorem spec_KeyOk_eq (K : Nat) (k : Key) : spec_KeyOk K k.blk k.age k.kind k.cell k.gen = some (keyOk k, ()) := by
  unfold spec_KeyOk keyOk
  simp only [spec_l1In_eq, bnd_some']
  cases inR k.blk 0 15 <;> simp
  cases inR k.age 1 60 <;> simp
  cases inR k.kind 0 2 <;> simp
  by_cases h : k.kind = 1 <;> simp [br_dec, h]
  · cases inR k.cell 0 23 <;> simp
  · by_cases h2 : k.cell = 0 <;> simp [h2]
theorem impl_KeyOk_eq (K : Nat) (k : Key) : impl_KeyOk K k.blk k.age k.kind k.cell k.gen = some (keyOk k, ()) := by
  unfold impl_KeyOk keyOk
  simp only [impl_within_eq, bnd_some']
  cases inR k.blk 0 15 <;> simp
  cases inR k.age 1 60 <;> simp
  cases inR k.kind 0 2 <;> simp
  by_cases h : k.kind = 1 <;> simp [br_dec, h]
  · cases inR k.cell 0 23 <;> simp
  · by_cases h2 : k.cell = 0 <;> simp [h2]
theorem spec_LessKey_eq (K : Nat) (a b : Key) : spec_LessKey K a.blk a.age a.kind a.cell a.gen b.blk b.age b.kind b.cell b.gen = some (lessKey a b, ()) := by
  unfold spec_LessKey lessKey
  by_cases h : a.blk = b.blk <;> simp [br_dec, h]
theorem impl_LessKey_eq (K : Nat) (a b : Key) : impl_LessKey K a.blk a.age a.kind a.cell a.gen b.blk b.age b.kind b.cell b.gen = some (lessKey a b, ()) := by
  unfold impl_LessKey lessKey
  by_cases h : a.blk = b.blk <;> by_cases h2 : a.blk < b.blk <;> simp [br_dec, h, h2]
theorem spec_SameSpot_eq (K : Nat) (a b : Key) : spec_SameSpot K a.blk a.age a.kind a.cell a.gen b.blk b.age b.kind b.cell b.gen = some (sameSpot a b, ()) := by
  unfold spec_SameSpot sameSpot
  by_cases h : a.blk = b.blk <;> simp [br_dec, h]
theorem impl_SameSpot_eq (K : Nat) (a b : Key) : impl_SameSpot K a.blk a.age a.kind a.cell a.gen b.blk b.age b.kind b.cell b.gen = some (sameSpot a b, ()) := by
  unfold impl_SameSpot sameSpot
  by_cases h : a.blk = b.blk <;> simp [br_dec, h]
def rises : List Key → Bool
  | a :: b :: r => lessKey a b && rises (b :: r)
  | _ => true
def setOk (l : List Key) : Bool := l.all keyOk && rises l && decide (l.length ≤ 60)
theorem spec_l4Rises_eq (K : Nat) (l : List Key) (h : l.length ≤ 1073741824) (hK : l.length < K) : spec_l4Rises K l = some (rises l, ()) := by
  unfold spec_l4Rises
  by_cases h0 : l = []
  · subst h0
    obtain ⟨K', rfl⟩ : ∃ K', K = K' + 1 := ⟨K - 1, by omega⟩
    simp [loopFix, rises]
  have hl : 1 ≤ l.length := by cases l with | nil => exact absurd rfl h0 | cons _ _ => simp
  refine (loop_ix (fun j (_ : Unit) => (l, (j : Int), ())) l.length (fun j _ => 1 ≤ j) (fun j _ => some (rises (l.drop (j - 1)), ())) ?_ ?_ hl hK (j0 := 1) (a0 := ()) (Nat.le_refl _)).trans ?_
  · intro rec j a hj hi hrec
    obtain ⟨i, rfl⟩ : ∃ i, j = i + 1 := ⟨j - 1, by omega⟩
    have e1 : IntKind.wrap .i64 (((i + 1 : Nat) : Int) - 1) = (i : Int) := by rw [wr_of (by omega) (by omega)]; omega
    simp only [e1, Int.ofNat_lt, hj, decide_true, br_true, inK_nat (show i < l.length by omega), inK_nat hj, idxK_get (show i < l.length by omega), idxK_get hj, spec_LessKey_eq, bnd_some', wr_succ (show i + 1 < 9223372036854775807 by omega)]
    rw [Nat.add_sub_cancel, drop_cons (show i < l.length by omega), drop_cons hj]
    simp only [rises]
    cases lessKey l[i] l[i + 1]
    · rfl
    · simp only [Bool.not_true, br_false, Bool.true_and]
      rw [hrec () (by omega), Nat.add_sub_cancel, drop_cons hj]
  · intro rec a hi
    have : l.drop (l.length - 1) = [l[l.length - 1]] := by
      rw [drop_cons (by omega), show l.length - 1 + 1 = l.length by omega, List.drop_length]
    simp [this, rises]
  · simp
theorem dec_le (n m : Nat) : decide ((n : Int) ≤ (m : Int)) = decide (n ≤ m) := decide_eq_decide.2 (by omega)
theorem dec_eq0 (n : Nat) : decide ((n : Int) = (0 : Int)) = decide (n = 0) := decide_eq_decide.2 (by omega)
section
variable {K : Nat}
theorem spec_SetOk_eq (l : List Key) (h : l.length ≤ 1073741824) (hK : 2147483648 ≤ K) : spec_SetOk K l = some (setOk l, ()) := by
  unfold spec_SetOk
  refine (loop_ix (fun j (_ : Unit) => (l, (j : Int), ())) l.length (fun _ _ => True) (fun j _ => some ((l.drop j).all keyOk && rises l && decide (l.length ≤ 60), ())) ?_ ?_ (Nat.zero_le _) (by omega) (j0 := 0) (a0 := ()) trivial).trans rfl
  · intro rec j a hj _ hrec
    simp only [Int.ofNat_lt, hj, decide_true, decide_false, br_true, br_false, br_not, bnd_some', joinK_eq, inK_nat hj, idxK_get hj, wr_succ (show j < 9223372036854775807 by omega), key_eta, spec_KeyOk_eq]
    rw [drop_cons hj, List.all_cons]
    cases keyOk l[j]
    · rfl
    · exact hrec () trivial
  · intro rec a _
    simp only [Int.ofNat_lt, Nat.lt_irrefl, decide_true, decide_false, br_true, br_false, br_not, bnd_some', joinK_eq, List.drop_length, key_eta, spec_l4Rises_eq K l h (by omega), List.all_nil, Bool.true_and]
    have e := dec_le l.length 60
    cases rises l
    · rfl
    · simp only [br_true, Bool.true_and]; rw [← e]; rfl
theorem impl_SetOk_eq (l : List Key) (h : l.length ≤ 1073741824) (hK : 2147483648 ≤ K) : impl_SetOk K l = some (setOk l, ()) := by
  unfold impl_SetOk
  refine (loop_ix (fun j (_ : Unit) => (l, l, (j : Int), (l.length : Int), ())) l.length (fun _ _ => True) (fun j _ => some ((l.drop j).all keyOk && rises (l.drop (j - 1)) && decide (l.length ≤ 60), ())) ?_ ?_ (Nat.zero_le _) (by omega) (j0 := 0) (a0 := ()) trivial).trans rfl
  · intro rec j a hj _ hrec
    simp only [Int.ofNat_lt, hj, decide_true, decide_false, br_true, br_false, br_not, bnd_some', joinK_eq, inK_nat hj, idxK_get hj, wr_succ (show j < 9223372036854775807 by omega), key_eta, impl_KeyOk_eq]
    have hr := hrec () trivial
    rw [Nat.add_sub_cancel] at hr
    rw [drop_cons hj, List.all_cons]
    cases keyOk l[j]
    · rfl
    · simp only [br_true, Bool.true_and]
      cases j with
      | zero => exact hr
      | succ i =>
        have e1 := wr_pred (show i < 9223372036854775807 by omega)
        have e2 : decide (((i + 1 : Nat) : Int) > 0) = true := decide_eq_true (by omega)
        rw [e2, br_true, e1, inK_nat (show i < l.length by omega), idxK_get (show i < l.length by omega), impl_LessKey_eq]
        simp only [bnd_some']
        rw [Nat.add_sub_cancel, drop_cons (show i < l.length by omega), drop_cons hj]
        simp only [rises]
        rw [drop_cons hj] at hr
        cases lessKey l[i] l[i + 1]
        · simp
        · simp only [br_true, Bool.true_and]; exact hr
  · intro rec a _
    simp only [Int.ofNat_lt, Nat.lt_irrefl, decide_true, decide_false, br_true, br_false, br_not, bnd_some', joinK_eq, List.drop_length, key_eta, List.all_nil, Bool.true_and]
    have e := dec_le l.length 60
    have e2 : rises (l.drop (l.length - 1)) = true := by
      by_cases h0 : l = []
      · subst h0; rfl
      · have h1 : 1 ≤ l.length := by cases l with | nil => exact absurd rfl h0 | cons _ _ => simp
        rw [drop_cons (show l.length - 1 < l.length by omega), show l.length - 1 + 1 = l.length by omega, List.drop_length]
        rfl
    rw [e2, Bool.true_and, ← e]
    rfl
def setPutA (k : Key) : Bool → List Key → List Key
  | put, [] => if put then [] else [k]
  | put, x :: r => (if !put && !lessKey x k then [k] else []) ++ ((if sameSpot x k then [] else [x]) ++ setPutA k (put || !lessKey x k) r)
def setPut (l : List Key) (k : Key) : List Key := setPutA k false l
theorem setPutA_length (k : Key) : ∀ (l : List Key) (put : Bool), (setPutA k put l).length ≤ l.length + 1
  | [], put => by cases put <;> simp [setPutA]
  | x :: r, put => by
    have h1 := setPutA_length k r true
    have h2 := setPutA_length k r false
    have h3 : ∀ l, (setPutA k true l).length ≤ l.length := by
      intro l
      induction l with
      | nil => simp [setPutA]
      | cons y s ih =>
        simp only [setPutA, Bool.not_true, Bool.false_and, Bool.false_eq_true, if_false, List.nil_append, Bool.true_or, List.length_append, List.length_cons]
        split <;> simp <;> omega
    have h4 := h3 r
    cases put <;> cases hl : lessKey x k <;> cases hs : sameSpot x k <;> simp [setPutA, hl, hs] <;> omega
theorem spec_SetPut_eq (l : List Key) (k : Key) (h : l.length ≤ 1073741824) (hK : 2147483648 ≤ K) : spec_SetPut K l k.blk k.age k.kind k.cell k.gen = some (setPut l k, ()) := by
  unfold spec_SetPut
  refine (loop_ix (fun j (a : List Key × Bool) => (k.gen, k.cell, k.kind, k.age, k.blk, a.1, a.2, l, (j : Int), ())) l.length (fun j a => a.1.length ≤ 2 * j) (fun j a => some (a.1 ++ setPutA k a.2 (l.drop j), ())) ?_ ?_ (Nat.zero_le _) (by omega) (j0 := 0) (a0 := ([], false)) (by simp)).trans rfl
  · rintro rec j ⟨out, put⟩ hj hi hrec
    simp only at hi hrec ⊢
    simp only [Int.ofNat_lt, hj, decide_true, decide_false, br_true, br_false, br_not, bnd_some', joinK_eq, inK_nat hj, idxK_get hj, wr_succ (show j < 9223372036854775807 by omega), key_eta, spec_SameSpot_eq, spec_LessKey_eq]
    rw [drop_cons hj]
    simp only [setPutA]
    cases put <;> cases lessKey l[j] k <;> cases sameSpot l[j] k <;> simp only [br_true, br_false, br_not, Bool.not_true, Bool.not_false, Bool.and_true, Bool.and_false, Bool.false_and, Bool.true_and, Bool.or_true, Bool.or_false, Bool.true_or, Bool.false_or, if_true, if_false, Bool.false_eq_true, List.nil_append]
    all_goals
      first
      | (rw [appK_ok (by simp; omega), appK_ok (by simp; omega), hrec (_, _) (by simp; omega)]; simp; done)
      | (rw [appK_ok (by simp; omega), hrec (_, _) (by simp; omega)]; simp; done)
      | (rw [hrec (_, _) (by simp; omega)]; done)
  · rintro rec ⟨out, put⟩ hi
    simp only at hi ⊢
    simp only [Int.ofNat_lt, Nat.lt_irrefl, decide_true, decide_false, br_true, br_false, br_not, bnd_some', joinK_eq, List.drop_length, key_eta]
    cases put
    · rw [br_false, appK_ok (by simp; omega)]; rfl
    · rw [br_true]; simp [setPutA]
theorem impl_SetPut_eq (l : List Key) (k : Key) (h : l.length ≤ 1073741824) (hK : 2147483648 ≤ K) : impl_SetPut K l k.blk k.age k.kind k.cell k.gen = some (setPut l k, ()) := by
  unfold impl_SetPut
  refine (loop_ix (fun j (a : List Key × Bool) => (k.gen, k.cell, k.kind, k.age, k.blk, a.1, a.2, l, (j : Int), (l.length : Int), ())) l.length (fun j a => a.1.length ≤ 2 * j) (fun j a => some (a.1 ++ setPutA k a.2 (l.drop j), ())) ?_ ?_ (Nat.zero_le _) (by omega) (j0 := 0) (a0 := ([], false)) (by simp)).trans rfl
  · rintro rec j ⟨out, put⟩ hj hi hrec
    simp only at hi hrec ⊢
    simp only [Int.ofNat_lt, hj, decide_true, decide_false, br_true, br_false, br_not, bnd_some', joinK_eq, inK_nat hj, idxK_get hj, wr_succ (show j < 9223372036854775807 by omega), key_eta, impl_SameSpot_eq, impl_LessKey_eq]
    rw [drop_cons hj]
    simp only [setPutA]
    cases put <;> cases lessKey l[j] k <;> cases sameSpot l[j] k <;> simp only [br_true, br_false, br_not, Bool.not_true, Bool.not_false, Bool.and_true, Bool.and_false, Bool.false_and, Bool.true_and, Bool.or_true, Bool.or_false, Bool.true_or, Bool.false_or, if_true, if_false, Bool.false_eq_true, List.nil_append]
    all_goals
      first
      | (rw [appK_ok (by simp; omega), appK_ok (by simp; omega), hrec (_, _) (by simp; omega)]; simp; done)
      | (rw [appK_ok (by simp; omega), hrec (_, _) (by simp; omega)]; simp; done)
      | (rw [hrec (_, _) (by simp; omega)]; done)
  · rintro rec ⟨out, put⟩ hi
    simp only at hi ⊢
    simp only [Int.ofNat_lt, Nat.lt_irrefl, decide_true, decide_false, br_true, br_false, br_not, bnd_some', joinK_eq, List.drop_length, key_eta]
    cases put
    · rw [br_false, appK_ok (by simp; omega)]; rfl
    · rw [br_true]; simp [setPutA]
def dropNone (l : List Key) : List Key := l.filter fun k => decide (k.kind ≠ 0)
theorem spec_Drop_eq (l : List Key) (h : l.length ≤ 1073741824) (hK : 2147483648 ≤ K) : spec_Drop K l = some (dropNone l, ()) := by
  unfold spec_Drop
  refine (loop_ix (fun j (a : List Key) => (a, l, (j : Int), ())) l.length (fun j a => a.length ≤ j) (fun j a => some (a ++ dropNone (l.drop j), ())) ?_ ?_ (Nat.zero_le _) (by omega) (j0 := 0) (a0 := []) (by simp)).trans rfl
  · intro rec j a hj hi hrec
    simp only [Int.ofNat_lt, hj, decide_true, decide_false, br_true, br_false, br_not, bnd_some', joinK_eq, inK_nat hj, idxK_get hj, wr_succ (show j < 9223372036854775807 by omega), key_eta]
    rw [drop_cons hj]
    unfold dropNone at *
    rw [List.filter_cons]
    cases decide (l[j].kind ≠ 0)
    · simp only [br_false, Bool.false_eq_true, if_false]; exact hrec _ (by omega)
    · simp only [br_true, if_true]
      rw [appK_ok (by simp; omega), hrec _ (by simp; omega)]
      simp
  · intro rec a hi
    simp only [Int.ofNat_lt, Nat.lt_irrefl, decide_true, decide_false, br_true, br_false, br_not, bnd_some', joinK_eq, List.drop_length, key_eta]
    simp [dropNone]
theorem impl_Drop_eq (l : List Key) (h : l.length ≤ 1073741824) (hK : 2147483648 ≤ K) : impl_Drop K l = some (dropNone l, ()) := by
  unfold impl_Drop
  refine (loop_ix (fun j (a : List Key) => (a, l, (j : Int), (l.length : Int), ())) l.length (fun j a => a.length ≤ j) (fun j a => some (a ++ dropNone (l.drop j), ())) ?_ ?_ (Nat.zero_le _) (by omega) (j0 := 0) (a0 := []) (by simp)).trans rfl
  · intro rec j a hj hi hrec
    simp only [Int.ofNat_lt, hj, decide_true, decide_false, br_true, br_false, br_not, bnd_some', joinK_eq, inK_nat hj, idxK_get hj, wr_succ (show j < 9223372036854775807 by omega), key_eta]
    rw [drop_cons hj]
    unfold dropNone at *
    rw [List.filter_cons]
    cases decide (l[j].kind ≠ 0)
    · simp only [br_false, Bool.false_eq_true, if_false]; exact hrec _ (by omega)
    · simp only [br_true, if_true]
      rw [appK_ok (by simp; omega), hrec _ (by simp; omega)]
      simp
  · intro rec a hi
    simp only [Int.ofNat_lt, Nat.lt_irrefl, decide_true, decide_false, br_true, br_false, br_not, bnd_some', joinK_eq, List.drop_length, key_eta]
    simp [dropNone]
theorem impl_copyKeys_eq (l : List Key) (h : l.length ≤ 1073741824) : impl_copyKeys K l = some (l, ()) := by
  unfold impl_copyKeys
  rw [appK_ok (by simp; omega)]
  rfl
def mergeSets (old new : List Key) : List Key := new.foldl setPut old
theorem setPut_length (l : List Key) (k : Key) : (setPut l k).length ≤ l.length + 1 := setPutA_length k l false
theorem mergeSets_length : ∀ (new old : List Key), (mergeSets old new).length ≤ old.length + new.length
  | [], old => by simp [mergeSets]
  | k :: r, old => by
    have h1 := mergeSets_length r (setPut old k)
    have h2 := setPut_length old k
    simp only [mergeSets, List.foldl_cons, List.length_cons] at *
    omega
theorem spec_MergeSets_eq (old new : List Key) (h : old.length + new.length ≤ 1073741824) (hK : 2147483648 ≤ K) : spec_MergeSets K old new = some (mergeSets old new, ()) := by
  unfold spec_MergeSets
  rw [appK_ok (by simp; omega), List.nil_append]
  refine (loop_ix (fun j (a : List Key) => (a, new, (j : Int), ())) new.length (fun j a => a.length ≤ old.length + j) (fun j a => some (mergeSets a (new.drop j), ())) ?_ ?_ (Nat.zero_le _) (by omega) (j0 := 0) (a0 := old) (by simp)).trans rfl
  · intro rec j a hj hi hrec
    have := setPut_length a new[j]
    simp only [Int.ofNat_lt, hj, decide_true, decide_false, br_true, br_false, br_not, bnd_some', joinK_eq, inK_nat hj, idxK_get hj, wr_succ (show j < 9223372036854775807 by omega), key_eta, spec_SetPut_eq a new[j] (by omega) hK]
    rw [drop_cons hj]
    exact hrec _ (by omega)
  · intro rec a hi
    simp only [Int.ofNat_lt, Nat.lt_irrefl, decide_true, decide_false, br_true, br_false, br_not, bnd_some', joinK_eq, List.drop_length, key_eta]
    rfl
theorem impl_MergeSets_eq (old new : List Key) (h : old.length + new.length ≤ 1073741824) (hK : 2147483648 ≤ K) : impl_MergeSets K old new = some (mergeSets old new, ()) := by
  unfold impl_MergeSets
  rw [impl_copyKeys_eq old (by omega)]
  refine (loop_ix (fun j (a : List Key) => (a, new, (j : Int), (new.length : Int), ())) new.length (fun j a => a.length ≤ old.length + j) (fun j a => some (mergeSets a (new.drop j), ())) ?_ ?_ (Nat.zero_le _) (by omega) (j0 := 0) (a0 := old) (by simp)).trans rfl
  · intro rec j a hj hi hrec
    have := setPut_length a new[j]
    simp only [Int.ofNat_lt, hj, decide_true, decide_false, br_true, br_false, br_not, bnd_some', joinK_eq, inK_nat hj, idxK_get hj, wr_succ (show j < 9223372036854775807 by omega), key_eta, impl_SetPut_eq a new[j] (by omega) hK]
    rw [drop_cons hj]
    exact hrec _ (by omega)
  · intro rec a hi
    simp only [Int.ofNat_lt, Nat.lt_irrefl, decide_true, decide_false, br_true, br_false, br_not, bnd_some', joinK_eq, List.drop_length, key_eta]
    rfl
abbrev Sets := List (List Key)
def total (n : Sets) : Nat := (n.map List.length).sum
def NB (n : Sets) : Prop := n.length ≤ 536870912 ∧ total n ≤ 536870912
def NBs (n : Sets) : Prop := n.length ≤ 268435456 ∧ total n ≤ 268435456
theorem NBs.nb {n : Sets} (h : NBs n) : NB n := ⟨by have := h.1; omega, by have := h.2; omega⟩
def mergeAll (a : List Key) (n : Sets) : List Key := n.foldl mergeSets a
def nodeKeys (n : Sets) : List Key := dropNone (mergeAll [] n)
@[simp] theorem total_nil : total [] = 0 := rfl
theorem total_cons (l : List Key) (n : Sets) : total (l :: n) = l.length + total n := by simp [total]
theorem total_append (a b : Sets) : total (a ++ b) = total a + total b := by simp [total]
theorem mem_total {n : Sets} {l : List Key} (h : l ∈ n) : l.length ≤ total n := by
  induction n with
  | nil => cases h
  | cons x r ih =>
    rw [total_cons]
    rcases List.mem_cons.1 h with h | h
    · subst h; omega
    · have := ih h; omega
theorem total_drop {n : Sets} {j : Nat} (h : j < n.length) : total (n.drop j) = n[j].length + total (n.drop (j + 1)) := by rw [drop_cons h, total_cons]
theorem dropNone_length (l : List Key) : (dropNone l).length ≤ l.length := List.length_filter_le _ _
theorem mergeAll_length : ∀ (n : Sets) (a : List Key), (mergeAll a n).length ≤ a.length + total n
  | [], a => by simp [mergeAll, total]
  | l :: r, a => by
    have h1 := mergeAll_length r (mergeSets a l)
    have h2 := mergeSets_length l a
    rw [total_cons]
    simp only [mergeAll, List.foldl_cons] at *
    omega
theorem nodeKeys_length (n : Sets) : (nodeKeys n).length ≤ total n := by
  have h1 := dropNone_length (mergeAll [] n)
  have h2 := mergeAll_length n []
  simp only [nodeKeys, List.length_nil] at *
  omega
theorem spec_NodeKeys_eq (n : Sets) (h : NB n) (hK : 2147483648 ≤ K) : spec_NodeKeys K n = some (nodeKeys n, ()) := by
  obtain ⟨h1, h2⟩ := h
  unfold spec_NodeKeys
  refine (loop_ix (fun j (a : List Key) => (n, a, (j : Int), ())) n.length (fun j a => a.length + total (n.drop j) ≤ total n) (fun j a => some (dropNone (mergeAll a (n.drop j)), ())) ?_ ?_ (Nat.zero_le _) (by omega) (j0 := 0) (a0 := []) (by simp)).trans rfl
  · intro rec j a hj hi hrec
    rw [total_drop hj] at hi
    have := mergeSets_length n[j] a
    simp only [Int.ofNat_lt, hj, decide_true, decide_false, br_true, br_false, br_not, bnd_some', joinK_eq, inK_nat hj, idxK_get hj, wr_succ (show j < 9223372036854775807 by omega), key_eta, spec_MergeSets_eq a n[j] (by omega) hK]
    rw [drop_cons hj]
    exact hrec _ (by omega)
  · intro rec a hi
    rw [List.drop_length] at hi
    simp only [Int.ofNat_lt, Nat.lt_irrefl, decide_true, decide_false, br_true, br_false, br_not, bnd_some', joinK_eq, List.drop_length, key_eta, spec_Drop_eq a (by rw [total_nil] at hi; omega) hK]
    rfl
theorem impl_NodeKeys_eq (n : Sets) (h : NB n) (hK : 2147483648 ≤ K) : impl_NodeKeys K n = some (nodeKeys n, ()) := by
  obtain ⟨h1, h2⟩ := h
  unfold impl_NodeKeys
  refine (loop_ix (fun j (a : List Key) => (a, n, (j : Int), (n.length : Int), ())) n.length (fun j a => a.length + total (n.drop j) ≤ total n) (fun j a => some (dropNone (mergeAll a (n.drop j)), ())) ?_ ?_ (Nat.zero_le _) (by omega) (j0 := 0) (a0 := []) (by simp)).trans rfl
  · intro rec j a hj hi hrec
    rw [total_drop hj] at hi
    have := mergeSets_length n[j] a
    simp only [Int.ofNat_lt, hj, decide_true, decide_false, br_true, br_false, br_not, bnd_some', joinK_eq, inK_nat hj, idxK_get hj, wr_succ (show j < 9223372036854775807 by omega), key_eta, impl_MergeSets_eq a n[j] (by omega) hK]
    rw [drop_cons hj]
    exact hrec _ (by omega)
  · intro rec a hi
    rw [List.drop_length] at hi
    simp only [Int.ofNat_lt, Nat.lt_irrefl, decide_true, decide_false, br_true, br_false, br_not, bnd_some', joinK_eq, List.drop_length, key_eta, impl_Drop_eq a (by rw [total_nil] at hi; omega) hK]
    rfl
def nodeOk (n : Sets) : Bool := n.all (fun l => setOk l && decide (l.length ≠ 0)) && (decide (n.length ≤ 3) && decide (total n ≤ 8))
theorem spec_l5Count_eq (n : Sets) (h : NB n) (hK : 2147483648 ≤ K) : spec_l5Count K n = some ((total n : Int), ()) := by
  obtain ⟨h1, h2⟩ := h
  unfold spec_l5Count
  refine (loop_ix (fun j (a : Nat) => (n, (a : Int), (j : Int), ())) n.length (fun j a => a + total (n.drop j) ≤ total n) (fun j a => some (((a + total (n.drop j) : Nat) : Int), ())) ?_ ?_ (Nat.zero_le _) (by omega) (j0 := 0) (a0 := 0) (by simp)).trans ?_
  · intro rec j a hj hi hrec
    rw [total_drop hj] at hi
    have e : wr ((a : Int) + (n[j].length : Int)) = ((a + n[j].length : Nat) : Int) := wr_eq (by omega) (by omega)
    simp only [Int.ofNat_lt, hj, decide_true, decide_false, br_true, br_false, br_not, bnd_some', joinK_eq, inK_nat hj, idxK_get hj, wr_succ (show j < 9223372036854775807 by omega), key_eta]
    rw [e, hrec _ (by omega), total_drop hj]
    congr 3
    omega
  · intro rec a hi
    simp only [Int.ofNat_lt, Nat.lt_irrefl, decide_true, decide_false, br_true, br_false, br_not, bnd_some', joinK_eq, List.drop_length, key_eta]
    simp [total]
  · simp
theorem spec_NodeOk_eq (n : Sets) (h : NB n) (hK : 2147483648 ≤ K) : spec_NodeOk K n = some (nodeOk n, ()) := by
  have hN := h
  obtain ⟨h1, h2⟩ := h
  unfold spec_NodeOk
  refine (loop_ix (fun j (_ : Unit) => (n, (j : Int), ())) n.length (fun _ _ => True) (fun j _ => some ((n.drop j).all (fun l => setOk l && decide (l.length ≠ 0)) && (decide (n.length ≤ 3) && decide (total n ≤ 8)), ())) ?_ ?_ (Nat.zero_le _) (by omega) (j0 := 0) (a0 := ()) trivial).trans rfl
  · intro rec j a hj _ hrec
    have hm := mem_total (List.getElem_mem hj)
    simp only [Int.ofNat_lt, hj, decide_true, decide_false, br_true, br_false, br_not, bnd_some', joinK_eq, inK_nat hj, idxK_get hj, wr_succ (show j < 9223372036854775807 by omega), key_eta, spec_SetOk_eq n[j] (by omega) hK]
    rw [drop_cons hj, List.all_cons]
    cases setOk n[j]
    · rfl
    · simp only [br_true, Bool.true_and]
      have e := dec_eq0 n[j].length
      rw [e]
      by_cases h0 : n[j].length = 0
      · simp [h0]
      · simp only [h0, decide_false, br_false, ne_eq, not_false_eq_true, decide_true, Bool.true_and]
        exact hrec () trivial
  · intro rec a _
    simp only [Int.ofNat_lt, Nat.lt_irrefl, decide_true, decide_false, br_true, br_false, br_not, bnd_some', joinK_eq, List.drop_length, key_eta, spec_l5Count_eq n hN hK, List.all_nil, Bool.true_and]
    have e := dec_le n.length 3
    have e2 := dec_le (total n) 8
    cases hd : decide (n.length ≤ 3)
    · rw [hd] at e; rw [show decide ((n.length : Int) ≤ (3 : Int)) = false from e]; rfl
    · rw [hd] at e; rw [show decide ((n.length : Int) ≤ (3 : Int)) = true from e, br_true, Bool.true_and, ← e2]; rfl
theorem impl_NodeOk_eq (n : Sets) (h : NB n) (hK : 2147483648 ≤ K) : impl_NodeOk K n = some (nodeOk n, ()) := by
  have hN := h
  obtain ⟨h1, h2⟩ := h
  unfold impl_NodeOk
  refine (loop_ix (fun j (a : Nat) => (n, (a : Int), n, (j : Int), (n.length : Int), ())) n.length (fun j a => a + total (n.drop j) = total n) (fun j _ => some ((n.drop j).all (fun l => setOk l && decide (l.length ≠ 0)) && (decide (n.length ≤ 3) && decide (total n ≤ 8)), ())) ?_ ?_ (Nat.zero_le _) (by omega) (j0 := 0) (a0 := 0) (by simp)).trans rfl
  · intro rec j a hj hi hrec
    have hm := mem_total (List.getElem_mem hj)
    rw [total_drop hj] at hi
    have e : wr ((a : Int) + (n[j].length : Int)) = ((a + n[j].length : Nat) : Int) := wr_eq (by omega) (by omega)
    simp only [Int.ofNat_lt, hj, decide_true, decide_false, br_true, br_false, br_not, bnd_some', joinK_eq, inK_nat hj, idxK_get hj, wr_succ (show j < 9223372036854775807 by omega), key_eta, impl_SetOk_eq n[j] (by omega) hK]
    rw [drop_cons hj, List.all_cons]
    cases setOk n[j]
    · rfl
    · simp only [br_true, Bool.true_and]
      have e5 := dec_eq0 n[j].length
      rw [e5, e]
      by_cases h0 : n[j].length = 0
      · simp [h0]
      · simp only [h0, decide_false, br_false, ne_eq, not_false_eq_true, decide_true, Bool.true_and]
        exact hrec _ (by omega)
  · intro rec a hi
    have ha : a = total n := by simpa [total] using hi
    subst ha
    simp only [Int.ofNat_lt, Nat.lt_irrefl, decide_true, decide_false, br_true, br_false, br_not, bnd_some', joinK_eq, List.drop_length, key_eta, List.all_nil, Bool.true_and]
    have e := dec_le n.length 3
    have e2 := dec_le (total n) 8
    cases hd : decide (n.length ≤ 3)
    · rw [hd] at e; rw [show decide ((n.length : Int) ≤ (3 : Int)) = false from e]; rfl
    · rw [hd] at e; rw [show decide ((n.length : Int) ≤ (3 : Int)) = true from e, br_true, Bool.true_and, ← e2]; rfl
end
end Go.Proofs.Fw.R1
set_option linter.unusedVariables false
set_option linter.unusedSimpArgs false
namespace Go.Proofs.Fw.R1
open Go.Proofs.Fw
section
variable {K : Nat}
abbrev KeyRes := Int × Int × Int × Int × Int × Bool × Unit
def keyRes : Option Key → KeyRes
  | some k => (k.blk, k.age, k.kind, k.cell, k.gen, true, ())
  | none => (0, 0, 0, 0, 0, false, ())
def setAt (l : List Key) (b a : Int) : Option Key := l.find? fun k => decide (k.blk = b) && decide (k.age = a)
theorem impl_SetAt_eq (l : List Key) (b a : Int) (h : l.length ≤ 1073741824) (hK : 2147483648 ≤ K) : impl_SetAt K l b a = some (keyRes (setAt l b a)) := by
  unfold impl_SetAt
  refine (loop_ix (fun j (_ : Unit) => (0, 0, 0, 0, 0, l, b, a, (j : Int), (l.length : Int), ())) l.length (fun _ _ => True) (fun j _ => some (keyRes (setAt (l.drop j) b a))) ?_ ?_ (Nat.zero_le _) (by omega) (j0 := 0) (a0 := ()) trivial).trans rfl
  · intro rec j _ hj _ hrec
    have hr := hrec () trivial
    simp only [Int.ofNat_lt, hj, decide_true, decide_false, br_true, br_false, br_not, bnd_some', joinK_eq, inK_nat hj, idxK_get hj, wr_succ (show j < 9223372036854775807 by omega), key_eta]
    rw [drop_cons hj]
    unfold setAt at *
    rw [List.find?_cons]
    cases h1 : decide (l[j].blk = b)
    · simpa using hr
    · cases h2 : decide (l[j].age = a)
      · simpa using hr
      · rfl
  · intro rec _ _
    simp only [Int.ofNat_lt, Nat.lt_irrefl, decide_true, decide_false, br_true, br_false, br_not, bnd_some', joinK_eq, List.drop_length, key_eta]
    rfl
theorem spec_SetAt_eq (l : List Key) (b a : Int) (h : l.length ≤ 1073741824) (hK : 2147483648 ≤ K) : spec_SetAt K l b a = some (keyRes (setAt l b a)) := by
  unfold spec_SetAt
  refine (loop_ix (fun j (_ : Unit) => (0, 0, 0, 0, 0, b, a, l, (j : Int), ())) l.length (fun _ _ => True) (fun j _ => some (keyRes (setAt (l.drop j) b a))) ?_ ?_ (Nat.zero_le _) (by omega) (j0 := 0) (a0 := ()) trivial).trans rfl
  · intro rec j _ hj _ hrec
    have hr := hrec () trivial
    simp only [Int.ofNat_lt, hj, decide_true, decide_false, br_true, br_false, br_not, bnd_some', joinK_eq, inK_nat hj, idxK_get hj, wr_succ (show j < 9223372036854775807 by omega), key_eta]
    rw [drop_cons hj]
    unfold setAt at *
    rw [List.find?_cons]
    cases h1 : decide (l[j].blk = b)
    · simpa using hr
    · cases h2 : decide (l[j].age = a)
      · simpa using hr
      · rfl
  · intro rec _ _
    simp only [Int.ofNat_lt, Nat.lt_irrefl, decide_true, decide_false, br_true, br_false, br_not, bnd_some', joinK_eq, List.drop_length, key_eta]
    rfl
def nodeAtR (b a : Int) : Sets → Option Key
  | [] => none
  | l :: r => match setAt l b a with
    | some k => if k.kind = 0 then none else some k
    | none => nodeAtR b a r
def nodeAt (n : Sets) (b a : Int) : Option Key := nodeAtR b a n.reverse
theorem take_succ_rev {α : Type} {l : List α} {j : Nat} (h : j < l.length) : (l.take (j + 1)).reverse = l[j] :: (l.take j).reverse := by
  rw [List.take_succ_eq_append_getElem h, List.reverse_append]
  rfl
theorem impl_NodeAt_eq (n : Sets) (b a : Int) (h : NB n) (hK : 2147483648 ≤ K) : impl_NodeAt K n b a = some (keyRes (nodeAt n b a)) := by
  obtain ⟨h1, h2⟩ := h
  have e0 : wr ((n.length : Int) - 1) = (n.length : Int) - 1 := wr_of (by omega) (by omega)
  unfold impl_NodeAt
  simp only [joinK_eq]
  rw [e0]
  refine (loop_dn (fun j (_ : Unit) => (0, 0, 0, 0, 0, n, b, a, ((j : Int) - 1), ())) (fun j _ => j ≤ n.length) (fun j _ => some (keyRes (nodeAtR b a (n.take j).reverse))) ?_ ?_ (j0 := n.length) (a0 := ()) (by omega) (Nat.le_refl _)).trans ?_
  · intro rec j _ hj hrec
    have hm := mem_total (List.getElem_mem (show j < n.length by omega))
    have e1 : (((j + 1 : Nat) : Int) - 1) = (j : Int) := by omega
    have e2 : decide ((j : Int) ≥ 0) = true := decide_eq_true (by omega)
    have e3 : wr ((j : Int) - 1) = (j : Int) - 1 := wr_of (by omega) (by omega)
    simp only [e1, e2, br_true, inK_nat (show j < n.length by omega), idxK_get (show j < n.length by omega), impl_SetAt_eq n[j] b a (by omega) hK, bnd_some', br_not]
    rw [take_succ_rev (by omega), e3, hrec () (by omega)]
    simp only [nodeAtR]
    cases hs : setAt n[j] b a with
    | none => rfl
    | some k => by_cases hk : k.kind = 0 <;> simp [keyRes, hk]
  · intro rec _ _
    simp [nodeAtR, keyRes]
  · simp [nodeAt]
theorem spec_NodeAt_eq (n : Sets) (b a : Int) (h : NB n) (hK : 2147483648 ≤ K) : spec_NodeAt K n b a = some (keyRes (nodeAt n b a)) := by
  obtain ⟨h1, h2⟩ := h
  have e0 : wr ((n.length : Int) - 1) = (n.length : Int) - 1 := wr_of (by omega) (by omega)
  unfold spec_NodeAt
  rw [e0]
  refine (loop_dn (fun j (_ : Unit) => (0, 0, 0, 0, 0, n, b, a, ((j : Int) - 1), ())) (fun j _ => j ≤ n.length) (fun j _ => some (keyRes (nodeAtR b a (n.take j).reverse))) ?_ ?_ (j0 := n.length) (a0 := ()) (by omega) (Nat.le_refl _)).trans ?_
  · intro rec j _ hj hrec
    have hm := mem_total (List.getElem_mem (show j < n.length by omega))
    have e1 : (((j + 1 : Nat) : Int) - 1) = (j : Int) := by omega
    have e2 : decide ((j : Int) ≥ 0) = true := decide_eq_true (by omega)
    have e3 : wr ((j : Int) - 1) = (j : Int) - 1 := wr_of (by omega) (by omega)
    simp only [e1, e2, br_true, inK_nat (show j < n.length by omega), idxK_get (show j < n.length by omega), spec_SetAt_eq n[j] b a (by omega) hK, bnd_some', br_not]
    rw [take_succ_rev (by omega), e3, hrec () (by omega)]
    simp only [nodeAtR]
    cases hs : setAt n[j] b a with
    | none => rfl
    | some k => by_cases hk : k.kind = 0 <;> simp [keyRes, hk]
  · intro rec _ _
    simp [nodeAtR, keyRes]
  · simp [nodeAt]
@[simp] theorem node_eta (x : Node) : (⟨x.sets⟩ : Node) = x := rfl
theorem impl_copyNode_eq (n : Sets) (h : NB n) (hK : 2147483648 ≤ K) : impl_copyNode K n = some (n, ()) := by
  obtain ⟨h1, h2⟩ := h
  unfold impl_copyNode
  refine (loop_ix (fun j (a : Sets) => ([], a, n, (j : Int), (n.length : Int), ())) n.length (fun j a => a.length = j) (fun j a => some (a ++ n.drop j, ())) ?_ ?_ (Nat.zero_le _) (by omega) (j0 := 0) (a0 := []) rfl).trans rfl
  · intro rec j a hj hi hrec
    have hm := mem_total (List.getElem_mem hj)
    simp only [Int.ofNat_lt, hj, decide_true, decide_false, br_true, br_false, br_not, bnd_some', joinK_eq, inK_nat hj, idxK_get hj, wr_succ (show j < 9223372036854775807 by omega), key_eta, impl_copyKeys_eq n[j] (by omega)]
    rw [appK_ok (by simp; omega), hrec _ (by simp; omega), drop_cons hj]
    simp
  · intro rec a _
    simp only [Int.ofNat_lt, Nat.lt_irrefl, decide_true, decide_false, br_true, br_false, br_not, bnd_some', joinK_eq, List.drop_length, key_eta]
    simp
theorem spec_l5Copy_eq (n : Sets) (h : NB n) (hK : 2147483648 ≤ K) : spec_l5Copy K n = some (n, ()) := by
  obtain ⟨h1, h2⟩ := h
  unfold spec_l5Copy
  refine (loop_ix (fun j (a : Sets) => ([], a, n, (j : Int), ())) n.length (fun j a => a.length = j) (fun j a => some (a ++ n.drop j, ())) ?_ ?_ (Nat.zero_le _) (by omega) (j0 := 0) (a0 := []) rfl).trans rfl
  · intro rec j a hj hi hrec
    have hm := mem_total (List.getElem_mem hj)
    simp only [Int.ofNat_lt, hj, decide_true, decide_false, br_true, br_false, br_not, bnd_some', joinK_eq, inK_nat hj, idxK_get hj, wr_succ (show j < 9223372036854775807 by omega), key_eta]
    rw [appK_ok (by simp; omega), appK_ok (by simp; omega), hrec _ (by simp; omega), drop_cons hj]
    simp
  · intro rec a _
    simp only [Int.ofNat_lt, Nat.lt_irrefl, decide_true, decide_false, br_true, br_false, br_not, bnd_some', joinK_eq, List.drop_length, key_eta]
    simp
def ttotal (ns : List Node) : Nat := (ns.map fun x => total x.sets).sum
def TB (ls : List Int) (ns : List Node) : Prop := ls.length ≤ 67108864 ∧ ns.length ≤ 67108864 ∧ ttotal ns ≤ 67108864 ∧ ∀ x ∈ ns, x.sets.length ≤ 67108864
theorem ttotal_cons (x : Node) (ns : List Node) : ttotal (x :: ns) = total x.sets + ttotal ns := by simp [ttotal]
@[simp] theorem ttotal_nil : ttotal [] = 0 := rfl
theorem mem_ttotal {ns : List Node} {x : Node} (h : x ∈ ns) : total x.sets ≤ ttotal ns := by
  induction ns with
  | nil => cases h
  | cons y r ih =>
    rw [ttotal_cons]
    rcases List.mem_cons.1 h with h | h
    · subst h; omega
    · have := ih h; omega
theorem ttotal_drop {ns : List Node} {j : Nat} (h : j < ns.length) : ttotal (ns.drop j) = total ns[j].sets + ttotal (ns.drop (j + 1)) := by rw [drop_cons h, ttotal_cons]
theorem TB.nbs {ls : List Int} {ns : List Node} (h : TB ls ns) {x : Node} (hx : x ∈ ns) : NBs x.sets := by
  have h1 := mem_ttotal hx
  have h2 := h.2.2.2 x hx
  exact ⟨by omega, by have := h.2.2.1; omega⟩
theorem TB.nb {ls : List Int} {ns : List Node} (h : TB ls ns) {x : Node} (hx : x ∈ ns) : NB x.sets := (h.nbs hx).nb
theorem impl_copyInts_eq (l : List Int) (h : l.length ≤ 1073741824) : impl_copyInts K l = some (l, ()) := by
  unfold impl_copyInts
  rw [appK_ok (by simp; omega)]
  rfl
theorem impl_copyTree_eq (ls : List Int) (ns : List Node) (h : TB ls ns) (hK : 2147483648 ≤ K) : impl_copyTree K ls ns = some (ls, ns, ()) := by
  have hT := h
  obtain ⟨h1, h2, h3, h4⟩ := h
  unfold impl_copyTree
  rw [impl_copyInts_eq ls (by omega)]
  refine (loop_ix (fun j (a : List Node) => ([], [], a, ls, ns, (j : Int), (ns.length : Int), ())) ns.length (fun j a => a.length = j) (fun j a => some (ls, a ++ ns.drop j, ())) ?_ ?_ (Nat.zero_le _) (by omega) (j0 := 0) (a0 := []) rfl).trans rfl
  · intro rec j a hj hi hrec
    simp only [Int.ofNat_lt, hj, decide_true, decide_false, br_true, br_false, br_not, bnd_some', joinK_eq, inK_nat hj, idxK_get hj, wr_succ (show j < 9223372036854775807 by omega), key_eta, impl_copyNode_eq ns[j].sets (hT.nb (List.getElem_mem hj)) hK, node_eta]
    rw [appK_ok (by simp; omega), hrec _ (by simp; omega), drop_cons hj]
    simp
  · intro rec a _
    simp only [Int.ofNat_lt, Nat.lt_irrefl, decide_true, decide_false, br_true, br_false, br_not, bnd_some', joinK_eq, List.drop_length, key_eta]
    simp
theorem spec_l6Copy_eq (ls : List Int) (ns : List Node) (h : TB ls ns) (hK : 2147483648 ≤ K) : spec_l6Copy K ls ns = some (ls, ns, ()) := by
  have hT := h
  obtain ⟨h1, h2, h3, h4⟩ := h
  unfold spec_l6Copy
  rw [appK_ok (by simp; omega), List.nil_append]
  refine (loop_ix (fun j (a : List Node) => ([], [], a, ls, ns, ls, (j : Int), ())) ns.length (fun j a => a.length = j) (fun j a => some (ls, a ++ ns.drop j, ())) ?_ ?_ (Nat.zero_le _) (by omega) (j0 := 0) (a0 := []) rfl).trans rfl
  · intro rec j a hj hi hrec
    simp only [Int.ofNat_lt, hj, decide_true, decide_false, br_true, br_false, br_not, bnd_some', joinK_eq, inK_nat hj, idxK_get hj, wr_succ (show j < 9223372036854775807 by omega), key_eta, spec_l5Copy_eq ns[j].sets (hT.nb (List.getElem_mem hj)) hK, node_eta]
    rw [appK_ok (by simp; omega), hrec _ (by simp; omega), drop_cons hj]
    simp
  · intro rec a _
    simp only [Int.ofNat_lt, Nat.lt_irrefl, decide_true, decide_false, br_true, br_false, br_not, bnd_some', joinK_eq, List.drop_length, key_eta]
    simp
def nodeNew (l : List Key) : Sets := if l.length = 0 then [] else [l]
theorem impl_NodeNew_eq (l : List Key) (h : l.length ≤ 1073741824) : impl_NodeNew K l = some (nodeNew l, ()) := by
  unfold impl_NodeNew nodeNew
  rw [dec_eq0, br_dec, impl_copyKeys_eq l h]
  split <;> rfl
theorem spec_NodeNew_eq (l : List Key) (h : l.length ≤ 1073741824) : spec_NodeNew K l = some (nodeNew l, ()) := by
  unfold spec_NodeNew nodeNew
  rw [dec_eq0, br_dec, appK_ok (by simp; omega)]
  split <;> rfl
def keysWith (n : Sets) (k : Key) : List Key := dropNone (setPut (nodeKeys n) k)
theorem keysWith_length (n : Sets) (k : Key) : (keysWith n k).length ≤ total n + 1 := by
  have h1 := dropNone_length (setPut (nodeKeys n) k)
  have h2 := setPut_length (nodeKeys n) k
  have h3 := nodeKeys_length n
  unfold keysWith
  omega
theorem impl_keysWith_eq (n : Sets) (k : Key) (h : NB n) (hK : 2147483648 ≤ K) : impl_keysWith K n k.blk k.age k.kind k.cell k.gen = some (keysWith n k, ()) := by
  have h3 := nodeKeys_length n
  have h2 := setPut_length (nodeKeys n) k
  have := h.2
  unfold impl_keysWith
  rw [impl_NodeKeys_eq n h hK, bnd_some', impl_SetPut_eq _ k (by simp only; omega) hK, bnd_some', impl_Drop_eq _ (by simp only; omega) hK]
  rfl
def putLast (n : Sets) (k : Key) : Sets := match n[n.length - 1]? with
  | some l => if (setAt l k.blk k.age).isSome || decide (l.length < 4) then n.set (n.length - 1) (setPut l k) else n ++ [[k]]
  | none => n ++ [[k]]
def nodePut (n : Sets) (k : Key) : Sets × Bool :=
  if nodeOk (putLast n k) then (putLast n k, true)
  else if decide ((keysWith n k).length > 8) || !nodeOk (nodeNew (keysWith n k)) then (n, false) else (nodeNew (keysWith n k), true)
theorem total_set (n : Sets) (i : Nat) (l : List Key) (h : i < n.length) : total (n.set i l) + n[i].length = total n + l.length := by
  induction n generalizing i with
  | nil => cases h
  | cons x r ih =>
    cases i with
    | zero => simp [total_cons]; omega
    | succ i =>
      have := ih i (by simpa using h)
      simp only [List.set_cons_succ, total_cons, List.getElem_cons_succ]
      omega
theorem putLast_nb (n : Sets) (k : Key) (h : NBs n) : NB (putLast n k) := by
  obtain ⟨h1, h2⟩ := h
  unfold putLast
  split
  · rename_i l hl
    obtain ⟨hlt, hget⟩ := List.getElem?_eq_some_iff.1 hl
    split
    · have := total_set n (n.length - 1) (setPut l k) hlt
      have h3 := setPut_length l k
      rw [hget] at this
      exact ⟨by simp; omega, by omega⟩
    · exact ⟨by simp; omega, by rw [total_append]; simp [total]; simp [total] at h2; omega⟩
  · exact ⟨by simp; omega, by rw [total_append]; simp [total]; simp [total] at h2; omega⟩
theorem nodeNew_nb (l : List Key) (h : l.length ≤ 536870912) : NB (nodeNew l) := by
  unfold nodeNew
  split
  · exact ⟨by simp, by simp⟩
  · exact ⟨by simp, by simp [total]; exact h⟩
theorem impl_NodePut_eq (n : Sets) (k : Key) (h : NBs n) (hK : 2147483648 ≤ K) : impl_NodePut K n k.blk k.age k.kind k.cell k.gen = some ((nodePut n k).1, (nodePut n k).2, ()) := by
  have hk := keysWith_length n k
  have ho := putLast_nb n k h
  have hnb := h.nb
  obtain ⟨h1, h2⟩ := h
  have fin : ∀ (out : Sets), out = putLast n k → (bnd (impl_NodeOk K out) fun y5 => br y5.1 (some (out, true, ())) (bnd (impl_keysWith K n k.blk k.age k.kind k.cell k.gen) fun y6 => bnd (impl_NodeNew K y6.1) fun y7 =>
      br (decide ((List.length y6.1 : Int) > (8 : Int))) (bnd (impl_copyNode K n) fun y8 => some (y8.1, false, ())) (bnd (impl_NodeOk K y7.1) fun y9 => br (!y9.1) (bnd (impl_copyNode K n) fun y10 => some (y10.1, false, ())) (some (y7.1, true, ())))) :
      Option (List (List Key) × Bool × Unit)) = some ((nodePut n k).1, (nodePut n k).2, ()) := by
    rintro out rfl
    simp only [impl_NodeOk_eq _ ho hK, bnd_some', impl_keysWith_eq n k hnb hK, impl_NodeNew_eq (keysWith n k) (by omega), impl_copyNode_eq n hnb hK, impl_NodeOk_eq _ (nodeNew_nb (keysWith n k) (by omega)) hK]
    unfold nodePut
    have e : decide ((List.length (keysWith n k) : Int) > (8 : Int)) = decide ((keysWith n k).length > 8) := decide_eq_decide.2 (by omega)
    rw [e]
    cases nodeOk (putLast n k)
    · cases decide ((keysWith n k).length > 8)
      · cases nodeOk (nodeNew (keysWith n k)) <;> rfl
      · rfl
    · rfl
  unfold impl_NodePut
  rw [impl_copyNode_eq n hnb hK]
  simp only [bnd_some', joinK_eq]
  by_cases h0 : n = []
  · subst h0
    have e : decide (wr ((List.length ([] : Sets) : Int) - 1) ≥ 0) = false := by decide
    rw [e, br_false, br_false, appK_ok (by simp)]
    exact fin _ (by simp [putLast])
  · have hl : 1 ≤ n.length := by cases n with | nil => exact absurd rfl h0 | cons _ _ => simp
    have e1 : wr ((List.length n : Int) - 1) = ((n.length - 1 : Nat) : Int) := wr_eq (by omega) (by omega)
    have hlt : n.length - 1 < n.length := by omega
    have hm := mem_total (List.getElem_mem hlt)
    rw [e1, decide_eq_true (show ((n.length - 1 : Nat) : Int) ≥ 0 by omega), br_true, inK_nat hlt, idxK_get hlt, impl_SetAt_eq _ _ _ (by omega) hK, bnd_some', inK_nat hlt, idxK_get hlt]
    have hp : putLast n k = if (setAt n[n.length - 1] k.blk k.age).isSome || decide (n[n.length - 1].length < 4) then n.set (n.length - 1) (setPut n[n.length - 1] k) else n ++ [[k]] := by
      unfold putLast
      rw [List.getElem?_eq_getElem hlt]
    have hset : (setAt n[n.length - 1] k.blk k.age).isSome || decide (n[n.length - 1].length < 4) = true → (_ : Bool) = true := id
    rw [inK_nat hlt, idxK_get hlt, impl_SetPut_eq _ k (by omega) hK, bnd_some', inK_nat hlt, idxK_get hlt]
    simp only [Int.toNat_natCast, key_eta]
    have e4 : decide ((List.length n[n.length - 1] : Int) < (4 : Int)) = decide (n[n.length - 1].length < 4) := decide_eq_decide.2 (by omega)
    rw [e4]
    cases hs : setAt n[n.length - 1] k.blk k.age with
    | some k' =>
      simp only [keyRes, br_true]
      rw [hs] at hp
      exact fin _ hp.symm
    | none =>
      simp only [keyRes, br_false]
      rw [hs] at hp
      cases hd : decide (n[n.length - 1].length < 4)
      · rw [hd] at hp
        rw [br_false, appK_ok (by simp; omega)]
        exact fin _ hp.symm
      · rw [hd] at hp
        rw [br_true]
        exact fin _ hp.symm
theorem spec_NodePut_eq (n : Sets) (k : Key) (h : NBs n) (hK : 2147483648 ≤ K) : spec_NodePut K n k.blk k.age k.kind k.cell k.gen = some ((nodePut n k).1, (nodePut n k).2, ()) := by
  have hk := keysWith_length n k
  have ho := putLast_nb n k h
  have hnb := h.nb
  have hkn := nodeKeys_length n
  have hks := setPut_length (nodeKeys n) k
  obtain ⟨h1, h2⟩ := h
  have hkw : dropNone (setPut (nodeKeys n) k) = keysWith n k := rfl
  have fin : ∀ (out : Sets), out = putLast n k → (bnd (spec_NodeOk K out) fun y5 => br y5.1 (some (out, true, ())) (bnd (spec_NodeKeys K n) fun y6 => bnd (spec_SetPut K y6.1 k.blk k.age k.kind k.cell k.gen) fun y7 => bnd (spec_Drop K y7.1) fun y8 =>
      br (decide ((List.length y8.1 : Int) > (8 : Int))) (bnd (spec_l5Copy K n) fun y9 => some (y9.1, false, ())) (bnd (spec_NodeNew K y8.1) fun y10 => bnd (spec_NodeOk K y10.1) fun y11 => br (!y11.1) (bnd (spec_l5Copy K n) fun y12 => some (y12.1, false, ()))
        (bnd (spec_NodeNew K y8.1) fun y13 => some (y13.1, true, ())))) :
      Option (List (List Key) × Bool × Unit)) = some ((nodePut n k).1, (nodePut n k).2, ()) := by
    rintro out rfl
    simp only [spec_NodeOk_eq _ ho hK, bnd_some', spec_NodeKeys_eq n hnb hK, spec_SetPut_eq (nodeKeys n) k (by omega) hK, spec_Drop_eq (setPut (nodeKeys n) k) (by omega) hK, hkw, spec_NodeNew_eq (keysWith n k) (by omega), spec_l5Copy_eq n hnb hK, spec_NodeOk_eq _ (nodeNew_nb (keysWith n k) (by omega)) hK]
    unfold nodePut
    have e : decide ((List.length (keysWith n k) : Int) > (8 : Int)) = decide ((keysWith n k).length > 8) := decide_eq_decide.2 (by omega)
    rw [e]
    cases nodeOk (putLast n k)
    · cases decide ((keysWith n k).length > 8)
      · cases nodeOk (nodeNew (keysWith n k)) <;> rfl
      · rfl
    · rfl
  unfold spec_NodePut
  rw [spec_l5Copy_eq n hnb hK]
  simp only [bnd_some', joinK_eq]
  by_cases h0 : n = []
  · subst h0
    have e : decide (wr ((List.length ([] : Sets) : Int) - 1) ≥ 0) = false := by decide
    rw [e, br_false, br_false, appK_ok (by simp)]
    exact fin _ (by simp [putLast])
  · have hl : 1 ≤ n.length := by cases n with | nil => exact absurd rfl h0 | cons _ _ => simp
    have e1 : wr ((List.length n : Int) - 1) = ((n.length - 1 : Nat) : Int) := wr_eq (by omega) (by omega)
    have hlt : n.length - 1 < n.length := by omega
    have hm := mem_total (List.getElem_mem hlt)
    have hp : putLast n k = if (setAt n[n.length - 1] k.blk k.age).isSome || decide (n[n.length - 1].length < 4) then n.set (n.length - 1) (setPut n[n.length - 1] k) else n ++ [[k]] := by
      unfold putLast
      rw [List.getElem?_eq_getElem hlt]
    have e4 : decide ((List.length n[n.length - 1] : Int) < (4 : Int)) = decide (n[n.length - 1].length < 4) := decide_eq_decide.2 (by omega)
    simp only [e1, decide_eq_true (show ((n.length - 1 : Nat) : Int) ≥ 0 by omega), br_true, inK_nat hlt, idxK_get hlt, spec_SetAt_eq n[n.length - 1] k.blk k.age (by omega) hK, bnd_some', spec_SetPut_eq n[n.length - 1] k (by omega) hK, Int.toNat_natCast, key_eta, e4]
    cases hd : decide (n[n.length - 1].length < 4)
    · rw [hd] at hp
      rw [br_false]
      cases hs : setAt n[n.length - 1] k.blk k.age with
      | some k' =>
        rw [hs] at hp
        exact fin _ hp.symm
      | none =>
        rw [hs] at hp
        simp only [keyRes, br_false]
        rw [appK_ok (by simp; omega)]
        exact fin _ hp.symm
    · rw [hd, Bool.or_true] at hp
      rw [br_true]
      exact fin _ hp.symm
def nodePack (n : Sets) : Sets := nodeNew (nodeKeys n)
theorem spec_NodePack_eq (n : Sets) (h : NB n) (hK : 2147483648 ≤ K) : spec_NodePack K n = some (nodePack n, ()) := by
  have := nodeKeys_length n
  have := h.2
  unfold spec_NodePack
  simp only [spec_NodeKeys_eq n h hK, bnd_some', spec_NodeNew_eq (nodeKeys n) (by omega)]
  rfl
def treeKeys (ns : List Node) : List Key := ns.flatMap fun x => nodeKeys x.sets
theorem treeKeys_cons (x : Node) (ns : List Node) : treeKeys (x :: ns) = nodeKeys x.sets ++ treeKeys ns := rfl
theorem treeKeys_append (a b : List Node) : treeKeys (a ++ b) = treeKeys a ++ treeKeys b := by simp [treeKeys]
theorem treeKeys_length : ∀ (ns : List Node), (treeKeys ns).length ≤ ttotal ns
  | [] => by simp [treeKeys]
  | x :: r => by
    have h1 := treeKeys_length r
    have h2 := nodeKeys_length x.sets
    rw [treeKeys_cons, ttotal_cons, List.length_append]
    omega
theorem impl_TreeKeys_eq (ls : List Int) (ns : List Node) (h : TB ls ns) (hK : 2147483648 ≤ K) : impl_TreeKeys K ls ns = some (treeKeys ns, ()) := by
  have hT := h
  obtain ⟨h1, h2, h3, h4⟩ := h
  unfold impl_TreeKeys
  refine (loop_ix (fun j (a : List Key) => (a, ns, (j : Int), (ns.length : Int), ())) ns.length (fun j a => a.length + ttotal (ns.drop j) ≤ ttotal ns) (fun j a => some (a ++ treeKeys (ns.drop j), ())) ?_ ?_ (Nat.zero_le _) (by omega) (j0 := 0) (a0 := []) (by simp)).trans rfl
  · intro rec j a hj hi hrec
    rw [ttotal_drop hj] at hi
    have := nodeKeys_length ns[j].sets
    simp only [Int.ofNat_lt, hj, decide_true, decide_false, br_true, br_false, br_not, bnd_some', joinK_eq, inK_nat hj, idxK_get hj, wr_succ (show j < 9223372036854775807 by omega), key_eta, impl_NodeKeys_eq ns[j].sets (hT.nb (List.getElem_mem hj)) hK]
    rw [appK_ok (by omega), hrec _ (by simp; omega), drop_cons hj, treeKeys_cons]
    simp
  · intro rec a _
    simp only [Int.ofNat_lt, Nat.lt_irrefl, decide_true, decide_false, br_true, br_false, br_not, bnd_some', joinK_eq, List.drop_length, key_eta]
    simp [treeKeys]
theorem spec_TreeKeys_eq (ls : List Int) (ns : List Node) (h : TB ls ns) (hK : 2147483648 ≤ K) : spec_TreeKeys K ls ns = some (treeKeys ns, ()) := by
  have hT := h
  obtain ⟨h1, h2, h3, h4⟩ := h
  unfold spec_TreeKeys
  refine (loop_ix (fun j (a : List Key) => (ns, ls, a, (j : Int), ())) ns.length (fun j a => a.length + ttotal (ns.drop j) ≤ ttotal ns) (fun j a => some (a ++ treeKeys (ns.drop j), ())) ?_ ?_ (Nat.zero_le _) (by omega) (j0 := 0) (a0 := []) (by simp)).trans rfl
  · intro rec j a hj hi hrec
    rw [ttotal_drop hj] at hi
    have := nodeKeys_length ns[j].sets
    simp only [Int.ofNat_lt, hj, decide_true, decide_false, br_true, br_false, br_not, bnd_some', joinK_eq, inK_nat hj, idxK_get hj, wr_succ (show j < 9223372036854775807 by omega), key_eta, spec_NodeKeys_eq ns[j].sets (hT.nb (List.getElem_mem hj)) hK]
    rw [appK_ok (by omega), hrec _ (by simp; omega), drop_cons hj, treeKeys_cons]
    simp
  · intro rec a _
    simp only [Int.ofNat_lt, Nat.lt_irrefl, decide_true, decide_false, br_true, br_false, br_not, bnd_some', joinK_eq, List.drop_length, key_eta]
    simp [treeKeys]
def spotOf (b a : Int) : Int := wr (wr (64 * b) + a)
theorem impl_SpotOf_eq (b a : Int) : impl_SpotOf K b a = some (spotOf b a, ()) := rfl
theorem spec_SpotOf_eq (b a : Int) : spec_SpotOf K b a = some (spotOf b a, ()) := rfl
theorem spec_l6Spot_eq (k : Key) : spec_l6Spot K k.blk k.age k.kind k.cell k.gen = some (spotOf k.blk k.age, ()) := rfl
def spotIn (ls : List Int) (i : Nat) (lo : Int) (k : Key) : Bool := !decide (spotOf k.blk k.age < lo) && (match ls[i + 1]? with
  | some hi => !decide (spotOf k.blk k.age ≥ hi)
  | none => true)
def inBounds (ls : List Int) (i : Nat) (lo : Int) (n : Sets) : Bool := n.all fun l => l.all (spotIn ls i lo)
end
end Go.Proofs.Fw.R1
set_option linter.unusedVariables false
set_option linter.unusedSimpArgs false
namespace Go.Proofs.Fw.R1
open Go.Proofs.Fw
section
variable {K : Nat}
theorem inK_zero {R α : Type} {xs : List α} (h : 0 < xs.length) (k : Option R) : inK xs (0 : Int) k = k := inK_nat (j := 0) h k
theorem idxK_zero {R α : Type} {xs : List α} (h : 0 < xs.length) (k : α → Option R) : idxK xs (0 : Int) k = k xs[0] := idxK_get (j := 0) h k
theorem spot_chk {R : Type} (ls : List Int) (i : Nat) (h : i < ls.length) (hl : ls.length ≤ 1073741824) (k : Key) (F N : Option R) :
    (inK ls (i : Int) <| idxK ls (i : Int) fun x8 => br (decide (spotOf k.blk k.age < x8)) F (br (decide (wr ((i : Int) + 1) < (List.length ls : Int))) (inK ls (wr ((i : Int) + 1)) <| idxK ls (wr ((i : Int) + 1)) fun x9 => br (decide (spotOf k.blk k.age ≥ x9)) F N) N)) =
      if spotIn ls i ls[i] k then N else F := by
  rw [inK_nat h, idxK_get h, show wr ((i : Int) + 1) = ((i + 1 : Nat) : Int) from wr_succ (by omega)]
  unfold spotIn
  cases decide (spotOf k.blk k.age < ls[i])
  · simp only [br_false, Bool.not_false, Bool.true_and]
    by_cases h2 : i + 1 < ls.length
    · rw [decide_eq_true (by omega), br_true, inK_nat h2, idxK_get h2, List.getElem?_eq_getElem h2]
      show br _ F N = if (!decide (spotOf k.blk k.age ≥ ls[i + 1])) = true then N else F
      cases decide (spotOf k.blk k.age ≥ ls[i + 1]) <;> rfl
    · rw [decide_eq_false (by omega), br_false, List.getElem?_eq_none (by omega)]
      rfl
  · rfl
theorem impl_inBounds_eq (ls : List Int) (ns : List Node) (i : Nat) (h : TB ls ns) (h1 : i < ns.length) (h2 : i < ls.length) (hK : 2147483648 ≤ K) : impl_inBounds K ls ns i = some (inBounds ls i ls[i] ns[i].sets, ()) := by
  have hnb := h.nb (List.getElem_mem h1)
  obtain ⟨t1, t2, t3, t4⟩ := h
  unfold impl_inBounds
  rw [inK_nat h1, idxK_get h1]
  generalize ns[i].sets = n at hnb
  obtain ⟨b1, b2⟩ := hnb
  refine (loop_ix (fun j (_ : Unit) => (ns, ls, n, (j : Int), (i : Int), (n.length : Int), ())) n.length (fun _ _ => True) (fun j _ => some (inBounds ls i ls[i] (n.drop j), ())) ?_ ?_ (Nat.zero_le _) (by omega) (j0 := 0) (a0 := ()) trivial).trans rfl
  · intro rec j _ hj _ hrec
    have hr := hrec () trivial
    have hm := mem_total (List.getElem_mem hj)
    simp only [Int.ofNat_lt, hj, decide_true, decide_false, br_true, br_false, br_not, bnd_some', joinK_eq, inK_nat hj, idxK_get hj, wr_succ (show j < 9223372036854775807 by omega), key_eta]
    rw [drop_cons hj]
    generalize n[j] = l at hm
    refine (loop_ix (fun jj (_ : Unit) => (ns, ls, (n.length : Int), (i : Int), n, (j : Int), l, (jj : Int), (l.length : Int), ())) l.length (fun _ _ => True) (fun jj _ => if (l.drop jj).all (spotIn ls i ls[i]) then rec (ns, ls, n, ((j + 1 : Nat) : Int), (i : Int), (n.length : Int), ()) else some (false, ())) ?_ ?_ (Nat.zero_le _) (by omega) (j0 := 0) (a0 := ()) trivial).trans ?_
    · intro rec2 jj _ hjj _ hrec2
      have hr2 := hrec2 () trivial
      simp only [Int.ofNat_lt, hjj, decide_true, br_true, inK_nat hjj, idxK_get hjj, impl_SpotOf_eq, bnd_some', wr_succ (show jj < 9223372036854775807 by omega)]
      rw [spot_chk ls i h2 (by omega) l[jj], drop_cons hjj, List.all_cons, hr2]
      cases spotIn ls i ls[i] l[jj] <;> rfl
    · intro rec2 _ _
      simp only [Int.ofNat_lt, Nat.lt_irrefl, decide_true, decide_false, br_true, br_false, br_not, bnd_some', joinK_eq, List.drop_length, key_eta, List.all_nil, if_true]
      rw [show wr ((j : Int) + 1) = ((j + 1 : Nat) : Int) from wr_succ (by omega)]
    · rw [hr, List.drop_zero]
      unfold inBounds
      rw [List.all_cons]
      cases l.all (spotIn ls i ls[i]) <;> rfl
  · intro rec _ _
    simp only [Int.ofNat_lt, Nat.lt_irrefl, decide_true, decide_false, br_true, br_false, br_not, bnd_some', joinK_eq, List.drop_length, key_eta]
    rfl
def l6Node (ls : List Int) (i : Nat) (lo : Int) (n : Sets) : Bool := nodeOk n && ((decide (i = 0) || decide ((nodeKeys n).length ≠ 0)) && inBounds ls i lo n)
theorem spec_l6Node_eq (ls : List Int) (ns : List Node) (i : Nat) (h : TB ls ns) (h1 : i < ns.length) (h2 : i < ls.length) (hK : 2147483648 ≤ K) : spec_l6Node K ls ns i = some (l6Node ls i ls[i] ns[i].sets, ()) := by
  have hnb := h.nb (List.getElem_mem h1)
  obtain ⟨t1, t2, t3, t4⟩ := h
  unfold spec_l6Node
  rw [inK_nat h1, idxK_get h1]
  generalize ns[i].sets = n at hnb
  have hNB := hnb
  obtain ⟨b1, b2⟩ := hnb
  simp only [spec_NodeOk_eq n hNB hK, bnd_some', br_not, spec_NodeKeys_eq n hNB hK, dec_eq0]
  unfold l6Node
  cases nodeOk n
  · rfl
  rw [br_true, Bool.true_and]
  have loop : ∀ (X : Option (Bool × Unit)), X = some (inBounds ls i ls[i] n, ()) → br (decide ((i : Int) > 0)) (br (decide ((nodeKeys n).length = 0)) (some (false, ())) X) X = some (((decide (i = 0) || decide ((nodeKeys n).length ≠ 0)) && inBounds ls i ls[i] n), ()) := by
    rintro X rfl
    by_cases h0 : i = 0
    · subst h0; rfl
    · rw [decide_eq_true (by omega), br_true]
      by_cases h3 : (nodeKeys n).length = 0 <;> simp [h0, h3]
  refine loop _ ?_
  refine (loop_ix (fun j (_ : Unit) => (n, ns, ls, (j : Int), (i : Int), ())) n.length (fun _ _ => True) (fun j _ => some (inBounds ls i ls[i] (n.drop j), ())) ?_ ?_ (Nat.zero_le _) (by omega) (j0 := 0) (a0 := ()) trivial).trans rfl
  · intro rec j _ hj _ hrec
    have hr := hrec () trivial
    have hm := mem_total (List.getElem_mem hj)
    rw [drop_cons hj]
    simp only [Int.ofNat_lt, hj, decide_true, br_true]
    generalize hl : n[j] = l at hm
    have hlj : n[j]? = some l := by rw [List.getElem?_eq_getElem hj, hl]
    refine (loop_ix (fun jj (_ : Unit) => (ns, ls, n, (i : Int), (j : Int), (jj : Int), ())) l.length (fun _ _ => True) (fun jj _ => if (l.drop jj).all (spotIn ls i ls[i]) then rec (n, ns, ls, ((j + 1 : Nat) : Int), (i : Int), ()) else some (false, ())) ?_ ?_ (Nat.zero_le _) (by omega) (j0 := 0) (a0 := ()) trivial).trans ?_
    · intro rec2 jj _ hjj _ hrec2
      have hr2 := hrec2 () trivial
      simp only [inK_nat hj, idxK_nat' hlj, Int.ofNat_lt, hjj, decide_true, br_true, inK_nat hjj, idxK_get hjj, spec_l6Spot_eq, bnd_some', wr_succ (show jj < 9223372036854775807 by omega)]
      rw [spot_chk ls i h2 (by omega) l[jj], drop_cons hjj, List.all_cons, hr2]
      cases spotIn ls i ls[i] l[jj] <;> rfl
    · intro rec2 _ _
      simp only [inK_nat hj, idxK_nat' hlj, Int.ofNat_lt, Nat.lt_irrefl, decide_false, br_false, List.drop_length, List.all_nil, if_true]
      rw [show wr ((j : Int) + 1) = ((j + 1 : Nat) : Int) from wr_succ (by omega)]
    · rw [hr, List.drop_zero]
      unfold inBounds
      rw [List.all_cons]
      cases l.all (spotIn ls i ls[i]) <;> rfl
  · intro rec _ _
    simp only [Int.ofNat_lt, Nat.lt_irrefl, decide_true, decide_false, br_true, br_false, br_not, bnd_some', joinK_eq, List.drop_length, key_eta]
    rfl
def treeOkAt (ls : List Int) (ns : List Node) (j : Nat) : Bool := match ns[j]?, ls[j]? with
  | some x, some lo => (decide (j = 0) || !decide (ls.getD (j - 1) 0 ≥ lo)) && l6Node ls j lo x.sets
  | _, _ => false
def treeOk (ls : List Int) (ns : List Node) : Bool := inR ns.length 1 20 && (decide (ls.length = ns.length) && (decide (ls[0]? = some 0) && ((List.range' 0 ns.length).all (treeOkAt ls ns) && decide ((treeKeys ns).length ≤ 60))))
theorem range_all {p : Nat → Bool} {j n : Nat} (h : j < n) : (List.range' j (n - j)).all p = (p j && (List.range' (j + 1) (n - (j + 1))).all p) := by
  rw [show n - j = (n - (j + 1)) + 1 by omega, List.range'_succ, List.all_cons]
theorem range_all_end {p : Nat → Bool} {n : Nat} : (List.range' n (n - n)).all p = true := by simp
theorem prev_chk {R : Type} (ls : List Int) (j : Nat) (h : j < ls.length) (hl : ls.length ≤ 1073741824) (F N N' : Option R) (hN : j = 0 → N = N') :
    br (decide ((j : Int) > 0)) (inK ls (wr ((j : Int) - 1)) <| idxK ls (wr ((j : Int) - 1)) fun x4 => inK ls (j : Int) <| idxK ls (j : Int) fun x5 => br (decide (x4 ≥ x5)) F N) N' = if decide (j = 0) || !decide (ls.getD (j - 1) 0 ≥ ls[j]) then N else F := by
  cases j with
  | zero => rw [hN rfl]; rfl
  | succ i =>
    rw [decide_eq_true (show ((i + 1 : Nat) : Int) > 0 by omega), br_true, wr_pred (by omega), inK_nat (show i < ls.length by omega), idxK_get (show i < ls.length by omega), inK_nat h, idxK_get h]
    have e : ls.getD (i + 1 - 1) 0 = ls[i] := by rw [List.getD_eq_getElem?_getD, Nat.add_sub_cancel, List.getElem?_eq_getElem (show i < ls.length by omega)]; rfl
    rw [e]
    cases decide (ls[i] ≥ ls[i + 1]) <;> simp
theorem spec_TreeOk_eq (ls : List Int) (ns : List Node) (h : TB ls ns) (hK : 2147483648 ≤ K) : spec_TreeOk K ls ns = some (treeOk ls ns, ()) := by
  have hT := h
  obtain ⟨t1, t2, t3, t4⟩ := h
  unfold spec_TreeOk treeOk
  rw [spec_l1In_eq, bnd_some', br_not]
  cases hr : inR (ns.length : Int) 1 20
  · rfl
  rw [br_true, Bool.true_and]
  simp only [inR, Bool.and_eq_true, decide_eq_true_eq] at hr
  by_cases hl : ls.length = ns.length
  case neg =>
    rw [decide_eq_true (show (ls.length : Int) ≠ ns.length by omega)]
    simp [hl]
  rw [decide_eq_false (show ¬ (ls.length : Int) ≠ ns.length by omega), br_false]
  have h0 : 0 < ls.length := by omega
  rw [inK_zero h0, idxK_zero h0, List.getElem?_eq_getElem h0]
  have e0 : decide (some ls[0] = some (0 : Int)) = decide (ls[0] = (0 : Int)) := decide_eq_decide.2 (by simp)
  rw [e0, decide_eq_true hl, Bool.true_and]
  by_cases hz : ls[0] = (0 : Int)
  case neg => rw [decide_eq_true (show ls[0] ≠ (0 : Int) from hz), decide_eq_false hz]; rfl
  rw [decide_eq_false (show ¬ ls[0] ≠ (0 : Int) from fun h => h hz), decide_eq_true hz, br_false, Bool.true_and]
  refine (loop_ix (fun j (_ : Unit) => (ns, ls, (j : Int), ())) ns.length (fun _ _ => True) (fun j _ => some ((List.range' j (ns.length - j)).all (treeOkAt ls ns) && decide ((treeKeys ns).length ≤ 60), ())) ?_ ?_ (Nat.zero_le _) (by omega) (j0 := 0) (a0 := ()) trivial).trans rfl
  · intro rec j _ hj _ hrec
    have hr := hrec () trivial
    have hjl : j < ls.length := by omega
    simp only [Int.ofNat_lt, hj, decide_true, br_true, spec_l6Node_eq ls ns j hT hj hjl hK, bnd_some', br_not, wr_succ (show j < 9223372036854775807 by omega)]
    rw [prev_chk ls j hjl (by omega) _ _ _ (fun _ => rfl), range_all hj]
    have e : treeOkAt ls ns j = ((decide (j = 0) || !decide (ls.getD (j - 1) 0 ≥ ls[j])) && l6Node ls j ls[j] ns[j].sets) := by
      unfold treeOkAt
      rw [List.getElem?_eq_getElem hj, List.getElem?_eq_getElem hjl]
    rw [e]
    cases decide (j = 0) || !decide (ls.getD (j - 1) 0 ≥ ls[j])
    · rfl
    · simp only [if_true, Bool.true_and]
      cases l6Node ls j ls[j] ns[j].sets
      · rfl
      · exact hr
  · intro rec _ _
    simp only [Int.ofNat_lt, Nat.lt_irrefl, decide_true, decide_false, br_true, br_false, br_not, bnd_some', joinK_eq, List.drop_length, key_eta, spec_TreeKeys_eq ls ns hT hK, range_all_end, Bool.true_and]
    have e := dec_le (treeKeys ns).length 60
    rw [← e]; rfl
theorem impl_TreeOk_eq (ls : List Int) (ns : List Node) (h : TB ls ns) (hK : 2147483648 ≤ K) : impl_TreeOk K ls ns = some (treeOk ls ns, ()) := by
  have hT := h
  obtain ⟨t1, t2, t3, t4⟩ := h
  unfold impl_TreeOk treeOk
  rw [impl_within_eq, bnd_some', br_not]
  cases hr : inR (ns.length : Int) 1 20
  · rfl
  rw [br_true, Bool.true_and]
  simp only [inR, Bool.and_eq_true, decide_eq_true_eq] at hr
  by_cases hl : ls.length = ns.length
  case neg =>
    rw [decide_eq_true (show (ls.length : Int) ≠ ns.length by omega)]
    simp [hl]
  rw [decide_eq_false (show ¬ (ls.length : Int) ≠ ns.length by omega), br_false]
  have h0 : 0 < ls.length := by omega
  rw [inK_zero h0, idxK_zero h0, List.getElem?_eq_getElem h0]
  have e0 : decide (some ls[0] = some (0 : Int)) = decide (ls[0] = (0 : Int)) := decide_eq_decide.2 (by simp)
  rw [e0, decide_eq_true hl, Bool.true_and]
  by_cases hz : ls[0] = (0 : Int)
  case neg => rw [decide_eq_true (show ls[0] ≠ (0 : Int) from hz), decide_eq_false hz]; rfl
  rw [decide_eq_false (show ¬ ls[0] ≠ (0 : Int) from fun h => h hz), decide_eq_true hz, br_false, Bool.true_and]
  refine (loop_ix (fun j (a : Nat) => (ns, ls, (a : Int), ns, (j : Int), (ns.length : Int), ())) ns.length (fun j a => a + (treeKeys (ns.drop j)).length = (treeKeys ns).length) (fun j _ => some ((List.range' j (ns.length - j)).all (treeOkAt ls ns) && decide ((treeKeys ns).length ≤ 60), ())) ?_ ?_ (Nat.zero_le _) (by omega) (j0 := 0) (a0 := 0) (by simp)).trans rfl
  · intro rec j a hj hi hrec
    have hjl : j < ls.length := by omega
    have hkt := treeKeys_length ns
    rw [drop_cons hj, treeKeys_cons, List.length_append] at hi
    have ew : wr ((a : Int) + ((nodeKeys ns[j].sets).length : Int)) = ((a + (nodeKeys ns[j].sets).length : Nat) : Int) := wr_eq (by omega) (by omega)
    have hr := hrec (a + (nodeKeys ns[j].sets).length) (by omega)
    simp only [Int.ofNat_lt, hj, decide_true, br_true, inK_nat hj, idxK_get hj, impl_NodeOk_eq ns[j].sets (hT.nb (List.getElem_mem hj)) hK, impl_inBounds_eq ls ns j hT hj hjl hK, impl_NodeKeys_eq ns[j].sets (hT.nb (List.getElem_mem hj)) hK, bnd_some', br_not, wr_succ (show j < 9223372036854775807 by omega), ew, dec_eq0, hr]
    rw [prev_chk ls j hjl (by omega) _ _ _ (fun e => by subst e; rfl), range_all hj]
    have e : treeOkAt ls ns j = ((decide (j = 0) || !decide (ls.getD (j - 1) 0 ≥ ls[j])) && l6Node ls j ls[j] ns[j].sets) := by
      unfold treeOkAt
      rw [List.getElem?_eq_getElem hj, List.getElem?_eq_getElem hjl]
    rw [e]
    unfold l6Node
    cases decide (j = 0) || !decide (ls.getD (j - 1) 0 ≥ ls[j])
    · rfl
    · simp only [if_true, Bool.true_and]
      cases nodeOk ns[j].sets
      · rfl
      · simp only [br_true, Bool.true_and]
        cases inBounds ls j ls[j] ns[j].sets
        · simp
        · simp only [br_true, Bool.and_true]
          by_cases hj0 : j = 0
          · subst hj0; rfl
          · rw [decide_eq_true (show (j : Int) > 0 by omega), br_true]
            by_cases hk0 : (nodeKeys ns[j].sets).length = 0 <;> simp [hj0, hk0]
  · intro rec a hi
    rw [List.drop_length] at hi
    have ha : a = (treeKeys ns).length := by simpa [treeKeys] using hi
    subst ha
    simp only [Int.ofNat_lt, Nat.lt_irrefl, decide_true, decide_false, br_true, br_false, br_not, bnd_some', joinK_eq, List.drop_length, key_eta, range_all_end, Bool.true_and]
    have e := dec_le (treeKeys ns).length 60
    rw [← e]; rfl
end
end Go.Proofs.Fw.R1
set_option linter.unusedVariables false
set_option linter.unusedSimpArgs false
namespace Go.Proofs.Fw.R1
open Go.Proofs.Fw
section
variable {K : Nat}
def whereTo (ls : List Int) (s : Int) : Nat → Nat
  | 0 => 0
  | j + 1 => if ls.getD j 0 ≤ s then j + 1 else whereTo ls s j
def whereIn (ls : List Int) (b a : Int) : Nat := whereTo ls (spotOf b a) ls.length
theorem whereTo_le (ls : List Int) (s : Int) : ∀ j, whereTo ls s j ≤ j
  | 0 => Nat.le_refl _
  | j + 1 => by
    have := whereTo_le ls s j
    unfold whereTo
    split <;> omega
theorem whereTo_succ (ls : List Int) (s : Int) (j : Nat) : whereTo ls s (j + 1) = if ls.getD j 0 ≤ s then j + 1 else whereTo ls s j := rfl
theorem getD_get {α : Type} {l : List α} {j : Nat} (h : j < l.length) (d : α) : l.getD j d = l[j] := by
  rw [List.getD_eq_getElem?_getD, List.getElem?_eq_getElem h]; rfl
theorem impl_WhereIn_eq (ls : List Int) (ns : List Node) (b a : Int) (h : ls.length ≤ 1073741824) (hK : 2147483648 ≤ K) : impl_WhereIn K ls ns b a = some ((whereIn ls b a : Int) - 1, ()) := by
  have e0 : wr ((ls.length : Int) - 1) = (ls.length : Int) - 1 := wr_of (by omega) (by omega)
  unfold impl_WhereIn
  rw [e0]
  refine (loop_dn (fun j (_ : Unit) => (ns, ls, b, a, ((j : Int) - 1), ())) (fun j _ => j ≤ ls.length) (fun j _ => some ((whereTo ls (spotOf b a) j : Int) - 1, ())) ?_ ?_ (j0 := ls.length) (a0 := ()) (by omega) (Nat.le_refl _)).trans rfl
  · intro rec j _ hj hrec
    have hjl : j < ls.length := by omega
    have e1 : (((j + 1 : Nat) : Int) - 1) = (j : Int) := by omega
    have e2 : decide ((j : Int) ≥ 0) = true := decide_eq_true (by omega)
    have e3 : wr ((j : Int) - 1) = (j : Int) - 1 := wr_of (by omega) (by omega)
    simp only [e1, e2, e3, br_true, inK_nat hjl, idxK_get hjl, impl_SpotOf_eq, bnd_some', hrec () (by omega)]
    rw [whereTo_succ, getD_get hjl]
    by_cases hs : ls[j] ≤ spotOf b a
    · rw [decide_eq_true hs, if_pos hs, br_true, e1]
    · rw [decide_eq_false hs, if_neg hs]; rfl
  · intro rec _ _
    rfl
theorem spec_WhereIn_eq (ls : List Int) (ns : List Node) (b a : Int) (h : ls.length ≤ 1073741824) (hK : 2147483648 ≤ K) : spec_WhereIn K ls ns b a = some ((whereIn ls b a : Int) - 1, ()) := by
  unfold spec_WhereIn
  refine (loop_ix (fun j (o : Int) => (ns, ls, o, b, a, (j : Int), ())) ls.length (fun j o => o = (whereTo ls (spotOf b a) j : Int) - 1) (fun j _ => some ((whereIn ls b a : Int) - 1, ())) ?_ ?_ (Nat.zero_le _) (by omega) (j0 := 0) (a0 := -1) rfl).trans rfl
  · intro rec j o hj hi hrec
    simp only [Int.ofNat_lt, hj, decide_true, decide_false, br_true, br_false, br_not, bnd_some', joinK_eq, inK_nat hj, idxK_get hj, wr_succ (show j < 9223372036854775807 by omega), key_eta, spec_SpotOf_eq]
    have e1 : (((j + 1 : Nat) : Int) - 1) = (j : Int) := by omega
    have hr := hrec ((whereTo ls (spotOf b a) (j + 1) : Int) - 1) rfl
    rw [whereTo_succ, getD_get hj] at hr
    by_cases hs : ls[j] ≤ spotOf b a
    · rw [if_pos hs, e1] at hr
      rw [decide_eq_true hs, br_true]; exact hr
    · rw [if_neg hs, ← hi] at hr
      rw [decide_eq_false hs, br_false]; exact hr
  · intro rec o hi
    simp only [Int.ofNat_lt, Nat.lt_irrefl, decide_true, decide_false, br_true, br_false, br_not, bnd_some', joinK_eq, List.drop_length, key_eta]
    rw [hi]; rfl
def treeAt (ls : List Int) (ns : List Node) (b a : Int) : Option Key := match whereIn ls b a with
  | 0 => none
  | i + 1 => match ns[i]? with
    | some x => nodeAt x.sets b a
    | none => none
theorem inR_nat {i n : Nat} (h : n ≤ 1073741824) : inR (i : Int) 0 (wr ((n : Int) - 1)) = decide (i < n) := by
  rw [show wr ((n : Int) - 1) = (n : Int) - 1 from wr_of (by omega) (by omega)]
  unfold inR
  rw [decide_eq_true (show (0 : Int) ≤ i by omega), Bool.true_and]
  exact decide_eq_decide.2 (by omega)
theorem impl_TreeAt_eq (ls : List Int) (ns : List Node) (b a : Int) (h : TB ls ns) (hK : 2147483648 ≤ K) : impl_TreeAt K ls ns b a = some (keyRes (treeAt ls ns b a)) := by
  have hT := h
  obtain ⟨h1, h2, h3, h4⟩ := h
  unfold impl_TreeAt treeAt
  rw [impl_WhereIn_eq ls ns b a (by omega) hK, bnd_some', impl_within_eq, bnd_some', br_not]
  cases hw : whereIn ls b a with
  | zero => rfl
  | succ i =>
    simp only
    rw [show (((i + 1 : Nat) : Int) - 1) = (i : Int) by omega, inR_nat (by omega)]
    by_cases hi : i < ns.length
    · rw [decide_eq_true hi, br_true, inK_nat hi, idxK_get hi, List.getElem?_eq_getElem hi, impl_NodeAt_eq _ _ _ (hT.nb (List.getElem_mem hi)) hK]
      rfl
    · rw [decide_eq_false hi, br_false, List.getElem?_eq_none (by omega)]
      rfl
theorem spec_TreeAt_eq (ls : List Int) (ns : List Node) (b a : Int) (h : TB ls ns) (hK : 2147483648 ≤ K) : spec_TreeAt K ls ns b a = some (keyRes (treeAt ls ns b a)) := by
  have hT := h
  obtain ⟨h1, h2, h3, h4⟩ := h
  unfold spec_TreeAt treeAt
  rw [spec_WhereIn_eq ls ns b a (by omega) hK, bnd_some', spec_l1In_eq, bnd_some', br_not]
  cases hw : whereIn ls b a with
  | zero => rfl
  | succ i =>
    simp only
    rw [show (((i + 1 : Nat) : Int) - 1) = (i : Int) by omega, inR_nat (by omega)]
    by_cases hi : i < ns.length
    · rw [decide_eq_true hi, br_true, inK_nat hi, idxK_get hi, List.getElem?_eq_getElem hi, spec_NodeAt_eq _ _ _ (hT.nb (List.getElem_mem hi)) hK]
      rfl
    · rw [decide_eq_false hi, br_false, List.getElem?_eq_none (by omega)]
      rfl
def replL {α : Type} (l : List α) (i m : Nat) (x : List α) : List α := l.take i ++ x ++ l.drop (i + m)
theorem replL_length {α : Type} (l : List α) (i m : Nat) (x : List α) (h : i + m ≤ l.length) : (replL l i m x).length + m = l.length + x.length := by
  simp [replL]; omega
theorem subK_zero {R α : Type} {xs : List α} {b : Nat} (h : b ≤ xs.length) (k : List α → Option R) : subK xs (0 : Int) (b : Int) k = k (xs.take b) := (subK_ok (a := 0) rfl rfl (by omega) h k).trans rfl
theorem subK_end {R α : Type} {xs : List α} {a : Nat} (h : a ≤ xs.length) (k : List α → Option R) : subK xs (a : Int) (xs.length : Int) k = k (xs.drop a) := (subK_ok rfl rfl h (Nat.le_refl _) k).trans (by rw [List.take_length])
theorem impl_replaced_eq (ls : List Int) (ns : List Node) (i m : Nat) (xs : List Int) (ys : List Node) (h1 : ls.length ≤ 1073741824) (h2 : ns.length ≤ 1073741824) (h3 : xs.length ≤ 1073741824) (h4 : ys.length ≤ 1073741824) (hm1 : i + m ≤ ls.length) (hm2 : i + m ≤ ns.length) :
    impl_replaced K ls ns i m xs ys = some (replL ls i m xs, replL ns i m ys, ()) := by
  have e : wr ((i : Int) + (m : Int)) = ((i + m : Nat) : Int) := wr_eq (by omega) (by omega)
  unfold impl_replaced
  rw [e, subK_zero (by omega), impl_copyInts_eq _ (by simp; omega)]
  simp only [bnd_some']
  rw [appK_ok (by simp; omega), subK_end (by omega), appK_ok (by simp; omega), subK_zero (by omega), appK_ok (by simp; omega), appK_ok (by simp; omega), subK_end (by omega), appK_ok (by simp; omega)]
  simp [replL]
theorem spec_l6Set_eq (ls : List Int) (ns : List Node) (i : Nat) (xs : List Int) (ys : List Node) (h1 : ls.length ≤ 1073741824) (h2 : ns.length ≤ 1073741824) (h3 : xs.length ≤ 1073741824) (h4 : ys.length ≤ 1073741824) (hm1 : i + 1 ≤ ls.length) (hm2 : i + 1 ≤ ns.length) :
    spec_l6Set K ls ns i xs ys = some (replL ls i 1 xs, replL ns i 1 ys, ()) := by
  have e : wr ((i : Int) + 1) = ((i + 1 : Nat) : Int) := wr_eq (by omega) (by omega)
  unfold spec_l6Set
  rw [e, subK_zero (by omega), appK_ok (by simp; omega)]
  rw [appK_ok (by simp; omega), subK_end (by omega), appK_ok (by simp; omega), subK_zero (by omega), appK_ok (by simp; omega), appK_ok (by simp; omega), subK_end (by omega), appK_ok (by simp; omega)]
  simp [replL]
theorem replL_set {α : Type} (l : List α) (i : Nat) (x : α) (h : i < l.length) : replL l i 1 [x] = l.set i x := by
  rw [List.set_eq_take_append_cons_drop, if_pos h]
  simp [replL]
theorem replL_same (l : List Int) (i : Nat) (h : i < l.length) : replL l i 1 [l[i]] = l := by
  rw [replL_set l i _ h]; exact List.set_getElem_self h
def kn (x : Node) : List Key := nodeKeys x.sets
def pairFrom : List Node → Nat → Option Nat
  | x :: y :: r, j => if (kn x).length + (kn y).length ≤ 6 then some j else pairFrom (y :: r) (j + 1)
  | _, _ => none
def join1 (ls : List Int) (ns : List Node) (i : Nat) : List Int × List Node := (replL ls i 2 (ls.drop i |>.take 1), replL ns i 2 [⟨nodeNew ((ns.drop i |>.take 2).flatMap kn)⟩])
def joinN : Nat → List Int → List Node → List Int × List Node
  | 0, ls, ns => (ls, ns)
  | n + 1, ls, ns => match pairFrom ns 0 with
    | none => (ls, ns)
    | some i => joinN n (join1 ls ns i).1 (join1 ls ns i).2
def joinFrom (ls : List Int) (ns : List Node) (j : Nat) : List Int × List Node := match pairFrom (ns.drop j) j with
  | none => (ls, ns)
  | some i => joinN (ns.length - 1) (join1 ls ns i).1 (join1 ls ns i).2
def joined (ls : List Int) (ns : List Node) : List Int × List Node := joinN ns.length ls ns
theorem joined_from (ls : List Int) (ns : List Node) : joined ls ns = joinFrom ls ns 0 := by
  unfold joined joinFrom
  cases ns with
  | nil => rfl
  | cons x r => rfl
theorem pairFrom_some {l : List Node} {j i : Nat} (h : pairFrom l j = some i) : j ≤ i ∧ i + 1 < j + l.length := by
  induction l generalizing j with
  | nil => simp [pairFrom] at h
  | cons x r ih =>
    cases r with
    | nil => simp [pairFrom] at h
    | cons y r =>
      simp only [pairFrom] at h
      split at h
      · simp only [Option.some.injEq] at h; subst h; simp
      · have := ih h
        simp only [List.length_cons] at *
        omega
theorem pairFrom_drop {ns : List Node} {j : Nat} (h : j + 1 < ns.length) : pairFrom (ns.drop j) j = if (kn ns[j]).length + (kn ns[j + 1]).length ≤ 6 then some j else pairFrom (ns.drop (j + 1)) (j + 1) := by
  rw [drop_cons (show j < ns.length by omega), drop_cons h]
  rfl
theorem pairFrom_end {ns : List Node} {j : Nat} (h : ¬ j + 1 < ns.length) : pairFrom (ns.drop j) j = none := by
  by_cases h2 : j < ns.length
  · rw [drop_cons h2, List.drop_eq_nil_of_le (by omega)]; rfl
  · rw [List.drop_eq_nil_of_le (by omega)]; rfl
structure JB (ls : List Int) (ns : List Node) : Prop where
  len : ls.length = ns.length
  small : ns.length ≤ 1048576
  nodes : ∀ x ∈ ns, x.sets.length ≤ 1048576 ∧ total x.sets ≤ 1048576
theorem JB.nb {ls : List Int} {ns : List Node} (h : JB ls ns) {x : Node} (hx : x ∈ ns) : NB x.sets := by
  have := h.nodes x hx
  exact ⟨by omega, by omega⟩
theorem join1_lists (ls : List Int) (ns : List Node) (i : Nat) (h : i + 1 < ns.length) (hl : ls.length = ns.length) :
    join1 ls ns i = (replL ls i 2 [ls[i]], replL ns i 2 [⟨nodeNew (kn ns[i] ++ kn ns[i + 1])⟩]) := by
  unfold join1
  rw [drop_cons (show i < ls.length by omega), drop_cons (show i < ns.length by omega), drop_cons h]
  simp only [List.take_succ_cons, List.take_zero, List.flatMap_cons, List.flatMap_nil, List.append_nil]
theorem nodeNew_total (l : List Key) : (nodeNew l).length ≤ 1 ∧ total (nodeNew l) = l.length := by
  unfold nodeNew
  split <;> simp_all [total]
theorem join1_jb {ls : List Int} {ns : List Node} {i : Nat} (h : JB ls ns) (hi : i + 1 < ns.length) (h6 : (kn ns[i]).length + (kn ns[i + 1]).length ≤ 6) : JB (join1 ls ns i).1 (join1 ls ns i).2 ∧ (join1 ls ns i).2.length + 1 = ns.length := by
  obtain ⟨h1, h2, h3⟩ := h
  rw [join1_lists ls ns i hi h1]
  have e1 := replL_length ls i 2 [ls[i]] (by omega)
  have e2 := replL_length ns i 2 [⟨nodeNew (kn ns[i] ++ kn ns[i + 1])⟩] (by omega)
  simp only [List.length_cons, List.length_nil] at e1 e2
  refine ⟨⟨by simp only; omega, by simp only; omega, ?_⟩, by simp only; omega⟩
  intro x hx
  simp only [replL, List.append_assoc, List.mem_append, List.mem_singleton] at hx
  rcases hx with hx | hx | hx
  · exact h3 x (List.mem_of_mem_take hx)
  · subst hx
    have := nodeNew_total (kn ns[i] ++ kn ns[i + 1])
    simp only [List.length_append] at this
    simp only
    omega
  · exact h3 x (List.mem_of_mem_drop hx)
theorem pairFrom_six {l : List Node} {ns : List Node} {j i : Nat} (hl : l = ns.drop j) (h : pairFrom l j = some i) (hi : i + 1 < ns.length) : (kn ns[i]).length + (kn ns[i + 1]).length ≤ 6 := by
  induction l generalizing j with
  | nil => simp [pairFrom] at h
  | cons x r ih =>
    cases r with
    | nil => simp [pairFrom] at h
    | cons y r =>
      have hj2 := congrArg List.length hl
      simp only [List.length_cons, List.length_drop] at hj2
      have hj : j + 1 < ns.length := by omega
      rw [drop_cons (show j < ns.length by omega), drop_cons hj] at hl
      simp only [List.cons.injEq] at hl
      simp only [pairFrom] at h
      split at h
      · simp only [Option.some.injEq] at h; subst h
        rw [← hl.1, ← hl.2.1]; assumption
      · refine ih (j := j + 1) ?_ h
        rw [drop_cons hj, hl.2.1, hl.2.2]
theorem joinFrom_merge (ls : List Int) (ns : List Node) (j : Nat) (hj : j + 1 < ns.length) (hl : ls.length = ns.length) (h6 : (kn ns[j]).length + (kn ns[j + 1]).length ≤ 6) (hb : JB ls ns) :
    joinFrom ls ns j = joinFrom (join1 ls ns j).1 (join1 ls ns j).2 0 := by
  have h := join1_jb hb hj h6
  rw [← joined_from]
  unfold joinFrom joined
  rw [pairFrom_drop hj, if_pos h6]
  simp only
  rw [show ns.length - 1 = (join1 ls ns j).2.length by omega]
theorem joinFrom_next (ls : List Int) (ns : List Node) (j : Nat) (hj : j + 1 < ns.length) (h6 : ¬ (kn ns[j]).length + (kn ns[j + 1]).length ≤ 6) :
    joinFrom ls ns j = joinFrom ls ns (j + 1) := by
  unfold joinFrom
  rw [pairFrom_drop hj, if_neg h6]
theorem impl_merged_eq (ls : List Int) (ns : List Node) (h : JB ls ns) (hs : ns.length ≤ 1024) (hK : 2147483648 ≤ K) : impl_merged_o K ls ns = some ((joined ls ns).1, (joined ls ns).2, ()) := by
  rw [joined_from]
  unfold impl_merged_o
  refine (loop_mu (fun s : List Node × List Int × List Node × List Int × Int × Unit => s.1 = [] ∧ s.2.1 = [] ∧ JB s.2.2.2.1 s.2.2.1 ∧ 0 ≤ s.2.2.2.2.1 ∧ s.2.2.2.2.1 ≤ 1048576)
    (fun s => s.2.2.1.length * s.2.2.1.length + (s.2.2.1.length - s.2.2.2.2.1.toNat)) (fun s => some ((joinFrom s.2.2.2.1 s.2.2.1 s.2.2.2.2.1.toNat).1, (joinFrom s.2.2.2.1 s.2.2.1 s.2.2.2.2.1.toNat).2, ())) ?_ ?_ ?_).trans rfl
  · rintro rec ⟨e1, e2, ns, ls, ji, u⟩ ⟨rfl, rfl, hb, h0, h9⟩ hrec
    obtain ⟨j, rfl⟩ := Int.eq_ofNat_of_zero_le h0
    simp only at hb h9 hrec ⊢
    have hw : wr ((j : Int) + 1) = ((j + 1 : Nat) : Int) := wr_eq (by omega) (by omega)
    rw [hw]
    have hbs := hb.small
    by_cases hj : j + 1 < ns.length
    · have hj0 : j < ns.length := by omega
      have hjl : j < ls.length := by have := hb.len; omega
      have hk1 := nodeKeys_length ns[j].sets
      have hk2 := nodeKeys_length ns[j + 1].sets
      have hn1 := hb.nodes _ (List.getElem_mem hj0)
      have hn2 := hb.nodes _ (List.getElem_mem hj)
      have hlen := hb.len
      rw [decide_eq_true (show ((j + 1 : Nat) : Int) < (ns.length : Int) by omega), br_true]
      simp only [joinK_eq]
      rw [inK_nat hj0, idxK_get hj0, impl_NodeKeys_eq _ (hb.nb (List.getElem_mem hj0)) hK, bnd_some', inK_nat hj, idxK_get hj, impl_NodeKeys_eq _ (hb.nb (List.getElem_mem hj)) hK, bnd_some', Int.toNat_natCast]
      dsimp only
      rw [appK_ok (by omega)]
      have e6 : decide ((List.length (nodeKeys ns[j].sets ++ nodeKeys ns[j + 1].sets) : Int) ≤ (6 : Int)) = decide ((kn ns[j]).length + (kn ns[j + 1]).length ≤ 6) := decide_eq_decide.2 (by simp [kn]; omega)
      rw [e6]
      by_cases h6 : (kn ns[j]).length + (kn ns[j + 1]).length ≤ 6
      · have hb2 := join1_jb hb hj h6
        rw [decide_eq_true h6, br_true, inK_nat hjl, idxK_get hjl, impl_NodeNew_eq _ (by simp; omega), bnd_some', show (2 : Int) = ((2 : Nat) : Int) from rfl, impl_replaced_eq ls ns j 2 _ _ (by omega) (by omega) (by simp) (by simp) (by omega) (by omega), bnd_some']
        dsimp only
        have ej := join1_lists ls ns j hj hlen
        have ew : wr ((-1 : Int) + 1) = ((0 : Nat) : Int) := by decide
        rw [joinFrom_merge ls ns j hj hlen h6 hb]
        rw [ej] at hb2 ⊢
        simp only [kn] at hb2 ⊢
        rw [ew]
        refine hrec _ ⟨rfl, rfl, hb2.1, by simp, by simp⟩ ?_
        simp only
        generalize hq : replL ns j 2 [⟨nodeNew (nodeKeys ns[j].sets ++ nodeKeys ns[j + 1].sets)⟩] = q at *
        have hql := hb2.2
        generalize q.length = ql at *
        have : ns.length = ql + 1 := by omega
        rw [this, Nat.add_mul, Nat.mul_add]
        simp only [Int.toNat_natCast]
        omega
      · rw [decide_eq_false h6, br_false, hw, joinFrom_next ls ns j hj h6]
        refine hrec _ ⟨rfl, rfl, hb, by simp only; omega, by simp only; omega⟩ ?_
        simp only [Int.toNat_natCast]
        omega
    · rw [decide_eq_false (show ¬ ((j + 1 : Nat) : Int) < (ns.length : Int) by omega), br_false, Int.toNat_natCast]
      unfold joinFrom
      rw [pairFrom_end hj]
  · simp only [Int.toNat_zero, Nat.sub_zero]
    have : ns.length * ns.length ≤ 1024 * 1024 := Nat.mul_le_mul hs hs
    omega
  · exact ⟨rfl, rfl, h, by simp, by simp⟩
def pairRes : Option Nat → Int
  | some i => i
  | none => -1
theorem spec_l6Pair_eq (ls : List Int) (ns : List Node) (h : JB ls ns) (hK : 2147483648 ≤ K) : spec_l6Pair K ls ns = some (pairRes (pairFrom ns 0), ()) := by
  have hbs := h.small
  unfold spec_l6Pair
  refine (loop_mu (fun s : List Node × List Int × Int × Unit => s.1 = ns ∧ s.2.1 = ls ∧ 0 ≤ s.2.2.1 ∧ s.2.2.1 ≤ 1048576) (fun s => ns.length - s.2.2.1.toNat) (fun s => some (pairRes (pairFrom (ns.drop s.2.2.1.toNat) s.2.2.1.toNat), ())) ?_ ?_ ?_).trans rfl
  · rintro rec ⟨e1, e2, ji, u⟩ ⟨rfl, rfl, h0, h9⟩ hrec
    obtain ⟨j, rfl⟩ := Int.eq_ofNat_of_zero_le h0
    simp only at h9 hrec ⊢
    have hbs2 : e1.length ≤ 1048576 := h.small
    have hw : wr ((j : Int) + 1) = ((j + 1 : Nat) : Int) := wr_eq (by omega) (by omega)
    rw [hw, Int.toNat_natCast]
    by_cases hj : j + 1 < e1.length
    · have hj0 : j < e1.length := by omega
      have hk1 := nodeKeys_length e1[j].sets
      have hk2 := nodeKeys_length e1[j + 1].sets
      have hn1 := h.nodes _ (List.getElem_mem hj0)
      have hn2 := h.nodes _ (List.getElem_mem hj)
      rw [decide_eq_true (show ((j + 1 : Nat) : Int) < (e1.length : Int) by omega), br_true]
      rw [inK_nat hj0, idxK_get hj0, spec_NodeKeys_eq _ (h.nb (List.getElem_mem hj0)) hK, bnd_some', inK_nat hj, idxK_get hj, spec_NodeKeys_eq _ (h.nb (List.getElem_mem hj)) hK, bnd_some']
      have e6 : decide (wr ((List.length (nodeKeys e1[j].sets) : Int) + (List.length (nodeKeys e1[j + 1].sets) : Int)) ≤ (6 : Int)) = decide ((kn e1[j]).length + (kn e1[j + 1]).length ≤ 6) := by
        rw [show wr ((List.length (nodeKeys e1[j].sets) : Int) + (List.length (nodeKeys e1[j + 1].sets) : Int)) = (((nodeKeys e1[j].sets).length + (nodeKeys e1[j + 1].sets).length : Nat) : Int) from wr_eq (by omega) (by omega)]
        exact decide_eq_decide.2 (by simp [kn]; omega)
      rw [e6, pairFrom_drop hj]
      by_cases h6 : (kn e1[j]).length + (kn e1[j + 1]).length ≤ 6
      · rw [decide_eq_true h6, if_pos h6]; rfl
      · rw [decide_eq_false h6, if_neg h6, br_false, hrec _ ⟨rfl, rfl, by simp only; omega, by simp only; omega⟩ (by simp only [Int.toNat_natCast]; omega)]
        rfl
    · rw [decide_eq_false (show ¬ ((j + 1 : Nat) : Int) < (e1.length : Int) by omega), br_false, pairFrom_end hj]
      rfl
  · simp; omega
  · exact ⟨rfl, rfl, by simp, by simp⟩
theorem take_one_repl (l : List Int) (i : Nat) (h : i + 1 < l.length) : l.take (i + 1) ++ l.drop (i + 2) = replL l i 2 [l[i]] := by
  unfold replL
  rw [List.take_succ_eq_append_getElem (by omega)]
theorem spec_l6Join_eq (ls : List Int) (ns : List Node) (h : JB ls ns) (hs : ns.length ≤ 1024) (hK : 2147483648 ≤ K) : spec_l6Join_o K ls ns = some ((joined ls ns).1, (joined ls ns).2, ()) := by
  unfold spec_l6Join_o
  rw [spec_l6Pair_eq ls ns h hK, bnd_some']
  refine (loop_mu (fun s : List Node × List Int × List Node × List Int × Int × Unit => s.1 = [] ∧ s.2.1 = [] ∧ JB s.2.2.2.1 s.2.2.1 ∧ s.2.2.2.2.1 = pairRes (pairFrom s.2.2.1 0))
    (fun s => s.2.2.1.length) (fun s => some ((joined s.2.2.2.1 s.2.2.1).1, (joined s.2.2.2.1 s.2.2.1).2, ())) ?_ ?_ ?_).trans rfl
  · rintro rec ⟨e1, e2, ns, ls, ji, u⟩ ⟨rfl, rfl, hb, hp⟩ hrec
    simp only at hb hp hrec ⊢
    have hbs := hb.small
    have hlen := hb.len
    cases hpf : pairFrom ns 0 with
    | none =>
      rw [hpf] at hp
      subst hp
      rw [show decide (pairRes none ≥ (0 : Int)) = false from rfl, br_false, joined_from]
      unfold joinFrom
      rw [List.drop_zero, hpf]
    | some j =>
      rw [hpf] at hp
      have hp : ji = (j : Int) := hp
      subst hp
      have hj := (pairFrom_some hpf).2
      rw [Nat.zero_add] at hj
      have hj0 : j < ns.length := by omega
      have hjl : j < ls.length := by omega
      have hk1 := nodeKeys_length ns[j].sets
      have hk2 := nodeKeys_length ns[j + 1].sets
      have hn1 := hb.nodes _ (List.getElem_mem hj0)
      have hn2 := hb.nodes _ (List.getElem_mem hj)
      have h6 := pairFrom_six (j := 0) rfl hpf hj
      have hw : wr ((j : Int) + 1) = ((j + 1 : Nat) : Int) := wr_eq (by omega) (by omega)
      have hw2 : wr ((j : Int) + 2) = ((j + 2 : Nat) : Int) := wr_eq (by omega) (by omega)
      have hb2 := join1_jb hb hj h6
      have ej := join1_lists ls ns j hj hlen
      rw [hw, hw2, decide_eq_true (show (j : Int) ≥ 0 by omega), br_true, inK_nat hj0, idxK_get hj0, spec_NodeKeys_eq _ (hb.nb (List.getElem_mem hj0)) hK, bnd_some', inK_nat hj, idxK_get hj, spec_NodeKeys_eq _ (hb.nb (List.getElem_mem hj)) hK, bnd_some']
      dsimp only
      rw [appK_ok (by omega), subK_zero (by omega), appK_ok (by simp; omega), subK_end (by omega), appK_ok (by simp; omega)]
      rw [subK_zero (by omega), appK_ok (by simp; omega), spec_NodeNew_eq _ (by simp; omega), bnd_some']
      dsimp only
      rw [appK_ok (by simp; omega), subK_end (by omega), appK_ok (by simp; omega)]
      have ejo : joined ls ns = joined (join1 ls ns j).1 (join1 ls ns j).2 := by
        rw [joined_from ls ns]
        unfold joinFrom
        rw [List.drop_zero, hpf]
        simp only
        unfold joined
        rw [show ns.length - 1 = (join1 ls ns j).2.length by omega]
      have el : [] ++ ls.take (j + 1) ++ ls.drop (j + 2) = replL ls j 2 [ls[j]] := by
        rw [List.nil_append, take_one_repl ls j (by omega)]
      have en : [] ++ ns.take j ++ [⟨nodeNew (nodeKeys ns[j].sets ++ nodeKeys ns[j + 1].sets)⟩] ++ ns.drop (j + 2) = replL ns j 2 [⟨nodeNew (nodeKeys ns[j].sets ++ nodeKeys ns[j + 1].sets)⟩] := by
        rw [List.nil_append]; rfl
      rw [el, en, ejo]
      rw [ej] at hb2 ⊢
      simp only [kn] at hb2 ⊢
      rw [spec_l6Pair_eq _ _ hb2.1 hK, bnd_some']
      exact hrec _ ⟨rfl, rfl, hb2.1, rfl⟩ (by simp only; omega)
  · simp only; omega
  · exact ⟨rfl, rfl, h, rfl⟩
end
end Go.Proofs.Fw.R1
set_option linter.unusedVariables false
set_option linter.unusedSimpArgs false
namespace Go.Proofs.Fw.R1
open Go.Proofs.Fw
theorem lessKey_iff {a b : Key} : lessKey a b = true ↔ a.blk < b.blk ∨ (a.blk = b.blk ∧ a.age < b.age) := by
  unfold lessKey
  split <;> simp <;> omega
theorem sameSpot_iff {a b : Key} : sameSpot a b = true ↔ a.blk = b.blk ∧ a.age = b.age := by
  unfold sameSpot
  simp
theorem less_trans {a b c : Key} (h1 : lessKey a b = true) (h2 : lessKey b c = true) : lessKey a c = true := by
  rw [lessKey_iff] at *; omega
theorem less_tri (a b : Key) : lessKey a b = true ∨ sameSpot a b = true ∨ lessKey b a = true := by
  rw [lessKey_iff, lessKey_iff, sameSpot_iff]; omega
theorem less_irr {a b : Key} (h : lessKey a b = true) : sameSpot a b = false ∧ lessKey b a = false := by
  rw [← Bool.not_eq_true, ← Bool.not_eq_true, sameSpot_iff, lessKey_iff]
  rw [lessKey_iff] at h
  omega
theorem sameSpot_comm {a b : Key} : sameSpot a b = sameSpot b a := by
  rw [Bool.eq_iff_iff, sameSpot_iff, sameSpot_iff]; omega
def Sorted (l : List Key) : Prop := l.Pairwise fun a b => lessKey a b = true
theorem sorted_cons {a : Key} {l : List Key} : Sorted (a :: l) ↔ (∀ x ∈ l, lessKey a x = true) ∧ Sorted l := List.pairwise_cons
theorem rises_iff : ∀ (l : List Key), rises l = true ↔ Sorted l
  | [] => by simp [rises, Sorted]
  | [a] => by simp [rises, Sorted]
  | a :: b :: r => by
    rw [sorted_cons, ← rises_iff (b :: r)]
    simp only [rises, Bool.and_eq_true]
    constructor
    · rintro ⟨h1, h2⟩
      refine ⟨?_, h2⟩
      intro x hx
      rw [rises_iff (b :: r), sorted_cons] at h2
      rcases List.mem_cons.1 hx with h | h
      · subst h; exact h1
      · exact less_trans h1 (h2.1 x h)
    · rintro ⟨h1, h2⟩
      exact ⟨h1 b (List.mem_cons_self), h2⟩
theorem setPutA_true (k : Key) : ∀ (l : List Key), setPutA k true l = l.filter fun x => !sameSpot x k
  | [] => rfl
  | x :: r => by
    simp only [setPutA, Bool.not_true, Bool.false_and, Bool.false_eq_true, if_false, List.nil_append, Bool.true_or]
    rw [setPutA_true k r, List.filter_cons]
    cases sameSpot x k <;> rfl
theorem setPut_eq {l : List Key} {k : Key} (h : Sorted l) : setPut l k = l.filter (fun x => lessKey x k) ++ k :: l.filter (fun x => lessKey k x) := by
  unfold setPut
  induction l with
  | nil => rfl
  | cons x r ih =>
    rw [sorted_cons] at h
    simp only [setPutA, Bool.not_false, Bool.true_and, Bool.false_or]
    cases hx : lessKey x k
    · simp only [Bool.not_false, if_true]
      have h1 : ∀ y ∈ r, lessKey k y = true := by
        intro y hy
        have hy := h.1 y hy
        rw [lessKey_iff] at hy ⊢
        rw [← Bool.not_eq_true, lessKey_iff] at hx
        omega
      rw [setPutA_true, List.filter_cons, hx, List.filter_cons]
      have h2 : r.filter (fun x => lessKey x k) = [] := List.filter_eq_nil_iff.2 fun y hy => by simp [(less_irr (h1 y hy)).2]
      have h3 : r.filter (fun x => !sameSpot x k) = r := List.filter_eq_self.2 fun y hy => by rw [sameSpot_comm, (less_irr (h1 y hy)).1]; rfl
      have h4 : r.filter (fun x => lessKey k x) = r := List.filter_eq_self.2 h1
      rw [h2, h3, h4]
      rcases less_tri x k with h5 | h5 | h5
      · rw [h5] at hx; cases hx
      · have h6 : lessKey k x = false := by
          rw [← Bool.not_eq_true, lessKey_iff]
          rw [sameSpot_iff] at h5
          omega
        rw [h5, h6]; rfl
      · rw [h5, sameSpot_comm, (less_irr h5).1]; rfl
    · have h5 := less_irr hx
      rw [List.filter_cons, List.filter_cons, hx, h5.1, h5.2]
      show x :: setPutA k false r = _
      rw [ih h.2]
      rfl
theorem sorted_setPut {l : List Key} {k : Key} (h : Sorted l) : Sorted (setPut l k) := by
  rw [setPut_eq h]
  unfold Sorted at *
  rw [List.pairwise_append]
  refine ⟨h.filter _, List.pairwise_cons.2 ⟨?_, h.filter _⟩, ?_⟩
  · intro x hx; exact (List.mem_filter.1 hx).2
  · intro x hx y hy
    have hx := (List.mem_filter.1 hx).2
    rcases List.mem_cons.1 hy with hy | hy
    · subst hy; exact hx
    · exact less_trans hx (List.mem_filter.1 hy).2
theorem mem_setPut {l : List Key} {k x : Key} (h : Sorted l) : x ∈ setPut l k ↔ x = k ∨ (x ∈ l ∧ sameSpot x k = false) := by
  rw [setPut_eq h]
  simp only [List.mem_append, List.mem_filter, List.mem_cons]
  constructor
  · rintro (h1 | h1 | h1)
    · exact .inr ⟨h1.1, (less_irr h1.2).1⟩
    · exact .inl h1
    · exact .inr ⟨h1.1, by rw [sameSpot_comm]; exact (less_irr h1.2).1⟩
  · rintro (h1 | ⟨h1, h2⟩)
    · exact .inr (.inl h1)
    · rcases less_tri x k with h3 | h3 | h3
      · exact .inl ⟨h1, h3⟩
      · rw [h2] at h3; cases h3
      · exact .inr (.inr ⟨h1, h3⟩)
theorem sorted_nil : Sorted [] := List.Pairwise.nil
theorem sorted_mergeSets : ∀ (new old : List Key), Sorted old → Sorted (mergeSets old new)
  | [], old, h => h
  | k :: r, old, h => sorted_mergeSets r (setPut old k) (sorted_setPut h)
theorem sorted_mergeAll : ∀ (n : Sets) (a : List Key), Sorted a → Sorted (mergeAll a n)
  | [], a, h => h
  | l :: r, a, h => sorted_mergeAll r (mergeSets a l) (sorted_mergeSets l a h)
theorem sorted_dropNone {l : List Key} (h : Sorted l) : Sorted (dropNone l) := h.filter _
theorem sorted_nodeKeys (n : Sets) : Sorted (nodeKeys n) := sorted_dropNone (sorted_mergeAll n [] sorted_nil)
theorem sorted_keysWith (n : Sets) (k : Key) : Sorted (keysWith n k) := sorted_dropNone (sorted_setPut (sorted_nodeKeys n))
theorem all_setPut {p : Key → Bool} {l : List Key} {k : Key} (h : Sorted l) (h1 : ∀ x ∈ l, p x = true) (h2 : p k = true) : ∀ x ∈ setPut l k, p x = true := by
  intro x hx
  rcases (mem_setPut h).1 hx with hx | hx
  · subst hx; exact h2
  · exact h1 x hx.1
theorem all_mergeSets {p : Key → Bool} : ∀ (new old : List Key), Sorted old → (∀ x ∈ old, p x = true) → (∀ x ∈ new, p x = true) → ∀ x ∈ mergeSets old new, p x = true
  | [], old, _, h, _ => h
  | k :: r, old, hs, h, h2 => all_mergeSets r (setPut old k) (sorted_setPut hs) (all_setPut hs h (h2 k List.mem_cons_self)) fun x hx => h2 x (List.mem_cons_of_mem _ hx)
theorem all_mergeAll {p : Key → Bool} : ∀ (n : Sets) (a : List Key), Sorted a → (∀ x ∈ a, p x = true) → (∀ l ∈ n, ∀ x ∈ l, p x = true) → ∀ x ∈ mergeAll a n, p x = true
  | [], a, _, h, _ => h
  | l :: r, a, hs, h, h2 => all_mergeAll r (mergeSets a l) (sorted_mergeSets l a hs) (all_mergeSets l a hs h (h2 l List.mem_cons_self)) fun l' hl => h2 l' (List.mem_cons_of_mem _ hl)
theorem all_nodeKeys {p : Key → Bool} {n : Sets} (h : ∀ l ∈ n, ∀ x ∈ l, p x = true) : ∀ x ∈ nodeKeys n, p x = true := fun x hx =>
  all_mergeAll n [] sorted_nil (fun _ h => nomatch h) h x (List.mem_filter.1 hx).1
theorem nodeOk_iff {n : Sets} : nodeOk n = true ↔ (∀ l ∈ n, setOk l = true ∧ l ≠ []) ∧ n.length ≤ 3 ∧ total n ≤ 8 := by
  unfold nodeOk
  simp only [Bool.and_eq_true, List.all_eq_true, decide_eq_true_eq, ne_eq, List.length_eq_zero_iff]
theorem setOk_iff {l : List Key} : setOk l = true ↔ (∀ x ∈ l, keyOk x = true) ∧ Sorted l ∧ l.length ≤ 60 := by
  unfold setOk
  simp only [Bool.and_eq_true, List.all_eq_true, decide_eq_true_eq, rises_iff, and_assoc]
theorem nodeOk_keys {n : Sets} (h : nodeOk n = true) : ∀ l ∈ n, ∀ x ∈ l, keyOk x = true := fun l hl => (setOk_iff.1 ((nodeOk_iff.1 h).1 l hl).1).1
theorem keysWith_ok {n : Sets} {k : Key} (h : nodeOk n = true) (hk : keyOk k = true) : ∀ x ∈ keysWith n k, keyOk x = true := fun x hx =>
  all_setPut (sorted_nodeKeys n) (all_nodeKeys (nodeOk_keys h)) hk x (List.mem_filter.1 hx).1
theorem nodeNew_ok {l : List Key} (h1 : Sorted l) (h2 : ∀ x ∈ l, keyOk x = true) (h3 : l.length ≤ 8) : nodeOk (nodeNew l) = true := by
  unfold nodeNew
  split
  · rfl
  · rename_i h
    rw [nodeOk_iff]
    refine ⟨?_, by simp, by simp [total]; exact h3⟩
    intro l' hl
    rw [List.mem_singleton] at hl
    subst hl
    exact ⟨setOk_iff.2 ⟨h2, h1, by omega⟩, by intro h0; subst h0; exact h rfl⟩
theorem nodePut_false {n : Sets} {k : Key} (h : nodeOk n = true) (hk : keyOk k = true) (hf : (nodePut n k).2 = false) : 8 < (keysWith n k).length := by
  unfold nodePut at hf
  split at hf
  · cases hf
  · split at hf
    · rename_i h1
      rcases Bool.or_eq_true _ _ ▸ h1 with h1 | h1
      · exact of_decide_eq_true h1
      · by_cases h8 : (keysWith n k).length ≤ 8
        · rw [nodeNew_ok (sorted_keysWith n k) (keysWith_ok h hk) h8] at h1; cases h1
        · omega
    · cases hf
theorem nodePut_true {n : Sets} {k : Key} (hf : (nodePut n k).2 = true) : nodeOk (nodePut n k).1 = true := by
  unfold nodePut at hf ⊢
  split at hf
  · rename_i h; rw [if_pos h]; exact h
  · rename_i h
    split at hf
    · cases hf
    · rename_i h1
      rw [if_neg h, if_neg h1]
      simp only [Bool.or_eq_true, Bool.not_eq_true', not_or, Bool.not_eq_false] at h1
      exact h1.2
structure TreeGood (ls : List Int) (ns : List Node) : Prop where
  pos : 1 ≤ ns.length
  le : ns.length ≤ 20
  len : ls.length = ns.length
  zero : ls[0]? = some 0
  each : ∀ (i : Nat) (h1 : i < ns.length) (h2 : i < ls.length), (i = 0 ∨ ls.getD (i - 1) 0 < ls[i]) ∧ l6Node ls i ls[i] ns[i].sets = true
  keys : (treeKeys ns).length ≤ 60
theorem treeOk_iff {ls : List Int} {ns : List Node} : treeOk ls ns = true ↔ TreeGood ls ns := by
  unfold treeOk
  simp only [Bool.and_eq_true, decide_eq_true_eq, List.all_eq_true, inR]
  constructor
  · rintro ⟨⟨h1, h2⟩, h3, h4, h5, h6⟩
    refine ⟨by omega, by omega, h3, h4, ?_, h6⟩
    intro i hi1 hi2
    have h := h5 i (by rw [List.mem_range'_1]; omega)
    unfold treeOkAt at h
    rw [List.getElem?_eq_getElem hi1, List.getElem?_eq_getElem hi2] at h
    simp only [Bool.and_eq_true, Bool.or_eq_true, decide_eq_true_eq, Bool.not_eq_true', decide_eq_false_iff_not, ge_iff_le, Int.not_le] at h
    exact h
  · rintro ⟨h1, h2, h3, h4, h5, h6⟩
    refine ⟨⟨by omega, by omega⟩, h3, h4, ?_, h6⟩
    intro i hi
    rw [List.mem_range'_1] at hi
    have hi1 : i < ns.length := by omega
    have hi2 : i < ls.length := by omega
    unfold treeOkAt
    rw [List.getElem?_eq_getElem hi1, List.getElem?_eq_getElem hi2]
    simp only [Bool.and_eq_true, Bool.or_eq_true, decide_eq_true_eq, Bool.not_eq_true', decide_eq_false_iff_not, ge_iff_le, Int.not_le]
    exact h5 i hi1 hi2
theorem TreeGood.node {ls : List Int} {ns : List Node} (h : TreeGood ls ns) {x : Node} (hx : x ∈ ns) : nodeOk x.sets = true := by
  obtain ⟨i, hi, rfl⟩ := List.getElem_of_mem hx
  have := (h.each i hi (by have := h.len; omega)).2
  unfold l6Node at this
  rw [Bool.and_eq_true] at this
  exact this.1
theorem ttotal_le {ns : List Node} {m : Nat} (h : ∀ x ∈ ns, total x.sets ≤ m) : ttotal ns ≤ ns.length * m := by
  induction ns with
  | nil => simp
  | cons x r ih =>
    have h1 := h x List.mem_cons_self
    have h2 := ih fun y hy => h y (List.mem_cons_of_mem _ hy)
    rw [ttotal_cons, List.length_cons, Nat.add_mul]
    omega
theorem TreeGood.jb {ls : List Int} {ns : List Node} (h : TreeGood ls ns) : JB ls ns :=
  ⟨h.len, by have := h.le; omega, fun x hx => by have := nodeOk_iff.1 (h.node hx); omega⟩
theorem JB.tb {ls : List Int} {ns : List Node} (h : JB ls ns) (hs : ns.length ≤ 32) : TB ls ns := by
  have h1 := ttotal_le (ns := ns) (m := 1048576) fun x hx => (h.nodes x hx).2
  have h2 : ns.length * 1048576 ≤ 32 * 1048576 := Nat.mul_le_mul_right _ hs
  exact ⟨by have := h.len; omega, by omega, by omega, fun x hx => by have := (h.nodes x hx).1; omega⟩
theorem TreeGood.tb {ls : List Int} {ns : List Node} (h : TreeGood ls ns) : TB ls ns := h.jb.tb (by have := h.le; omega)
theorem JB.joinN : ∀ (n : Nat) (ls : List Int) (ns : List Node), JB ls ns → JB (joinN n ls ns).1 (joinN n ls ns).2 ∧ (joinN n ls ns).2.length ≤ ns.length
  | 0, ls, ns, h => ⟨h, Nat.le_refl _⟩
  | n + 1, ls, ns, h => by
    unfold R1.joinN
    cases hp : pairFrom ns 0 with
    | none => exact ⟨h, Nat.le_refl _⟩
    | some i =>
      have hi := (pairFrom_some hp).2
      rw [Nat.zero_add] at hi
      have h1 := join1_jb h hi (pairFrom_six (j := 0) rfl hp hi)
      have h2 := JB.joinN n _ _ h1.1
      exact ⟨h2.1, by have := h2.2; simp only; omega⟩
def putAt (ls : List Int) (ns : List Node) (i : Nat) (lo : Int) (n : Sets) (k : Key) : List Int × List Node :=
  if (nodePut n k).2 = false then
    (replL ls i 1 [lo, ((keysWith n k).drop (((keysWith n k).length + 1) / 2)).headD k |> fun m => spotOf m.blk m.age],
      replL ns i 1 [⟨nodeNew ((keysWith n k).take (((keysWith n k).length + 1) / 2))⟩, ⟨nodeNew ((keysWith n k).drop (((keysWith n k).length + 1) / 2))⟩])
  else if i > 0 ∧ (nodeKeys (nodePut n k).1).length = 0 then (replL ls i 1 [], replL ns i 1 []) else (ls, ns.set i ⟨(nodePut n k).1⟩)
def treePut (ls : List Int) (ns : List Node) (k : Key) : List Int × List Node × Bool :=
  if treeOk ls ns && keyOk k then
    match whereIn ls k.blk k.age with
    | 0 => (ls, ns, false)
    | i + 1 => match ls[i]?, ns[i]? with
      | some lo, some x => let p := putAt ls ns i lo x.sets k
        let q := joined p.1 p.2
        if treeOk q.1 q.2 then (q.1, q.2, true) else (ls, ns, false)
      | _, _ => (ls, ns, false)
  else (ls, ns, false)
theorem whereTo_pos {ls : List Int} {s : Int} (h0 : ls[0]? = some 0) (hs : 0 ≤ s) : ∀ j, 1 ≤ j → 1 ≤ whereTo ls s j
  | 0, h => absurd h (by omega)
  | 1, _ => by
    rw [whereTo_succ, List.getD_eq_getElem?_getD, h0]
    simp only [Option.getD_some]
    rw [if_pos hs]; omega
  | j + 2, _ => by
    have := whereTo_pos h0 hs (j + 1) (by omega)
    rw [whereTo_succ]
    split <;> omega
theorem keyOk_ranges {k : Key} (h : keyOk k = true) : 0 ≤ k.blk ∧ k.blk ≤ 15 ∧ 1 ≤ k.age ∧ k.age ≤ 60 := by
  unfold keyOk inR at h
  simp only [Bool.and_eq_true, decide_eq_true_eq] at h
  omega
theorem spotOf_eq {b a : Int} (h1 : 0 ≤ b) (h2 : b ≤ 1000000) (h3 : 0 ≤ a) (h4 : a ≤ 1000000) : spotOf b a = 64 * b + a := by
  unfold spotOf
  rw [show wr (64 * b) = 64 * b from wr_of (by omega) (by omega)]
  exact wr_of (by omega) (by omega)
theorem whereIn_pos {ls : List Int} {ns : List Node} {k : Key} (h : TreeGood ls ns) (hk : keyOk k = true) : ∃ i, whereIn ls k.blk k.age = i + 1 ∧ i < ls.length ∧ i < ns.length := by
  have h1 := keyOk_ranges hk
  have h2 : 1 ≤ whereIn ls k.blk k.age := whereTo_pos h.zero (by rw [spotOf_eq] <;> omega) _ (by have := h.pos; have := h.len; omega)
  have h3 := whereTo_le ls (spotOf k.blk k.age) ls.length
  have h4 := h.len
  unfold whereIn at *
  exact ⟨whereTo ls (spotOf k.blk k.age) ls.length - 1, by omega, by omega, by omega⟩
theorem putAt_jb {ls : List Int} {ns : List Node} {k : Key} {i : Nat} (h : TreeGood ls ns) (h1 : i < ls.length) (h2 : i < ns.length) : JB (putAt ls ns i ls[i] ns[i].sets k).1 (putAt ls ns i ls[i] ns[i].sets k).2 ∧ (putAt ls ns i ls[i] ns[i].sets k).2.length ≤ 21 := by
  obtain ⟨j1, j2, j3⟩ := h.jb
  have hle := h.le
  have hn := nodeOk_iff.1 (h.node (List.getElem_mem h2))
  have hkl := keysWith_length ns[i].sets k
  unfold putAt
  split
  · have e1 := replL_length ls i 1 [ls[i], ((keysWith ns[i].sets k).drop (((keysWith ns[i].sets k).length + 1) / 2)).headD k |> fun m => spotOf m.blk m.age] (by omega)
    have e2 := replL_length ns i 1 [⟨nodeNew ((keysWith ns[i].sets k).take (((keysWith ns[i].sets k).length + 1) / 2))⟩, ⟨nodeNew ((keysWith ns[i].sets k).drop (((keysWith ns[i].sets k).length + 1) / 2))⟩] (by omega)
    simp only [List.length_cons, List.length_nil] at e1 e2
    refine ⟨⟨by simp only; omega, by simp only; omega, ?_⟩, by simp only; omega⟩
    intro x hx
    simp only [replL, List.append_assoc, List.mem_append, List.mem_cons, List.not_mem_nil, or_false] at hx
    rcases hx with hx | (hx | hx) | hx
    · exact j3 x (List.mem_of_mem_take hx)
    · subst hx
      have := nodeNew_total ((keysWith ns[i].sets k).take (((keysWith ns[i].sets k).length + 1) / 2))
      rw [List.length_take] at this
      simp only; omega
    · subst hx
      have := nodeNew_total ((keysWith ns[i].sets k).drop (((keysWith ns[i].sets k).length + 1) / 2))
      rw [List.length_drop] at this
      simp only; omega
    · exact j3 x (List.mem_of_mem_drop hx)
  · rename_i hp
    split
    · have e1 := replL_length ls i 1 [] (by omega)
      have e2 := replL_length ns i 1 [] (by omega)
      simp only [List.length_nil] at e1 e2
      refine ⟨⟨by simp only; omega, by simp only; omega, ?_⟩, by simp only; omega⟩
      intro x hx
      simp only [replL, List.append_assoc, List.mem_append, List.not_mem_nil, false_or] at hx
      rcases hx with hx | hx
      · exact j3 x (List.mem_of_mem_take hx)
      · exact j3 x (List.mem_of_mem_drop hx)
    · refine ⟨⟨by simp only [List.length_set]; omega, by simp only [List.length_set]; omega, ?_⟩, by simp only [List.length_set]; omega⟩
      intro x hx
      rcases List.mem_or_eq_of_mem_set hx with hx | hx
      · exact j3 x hx
      · subst hx
        have := nodeOk_iff.1 (nodePut_true (Bool.not_eq_false _ ▸ hp))
        simp only
        omega
section
variable {K : Nat}
theorem impl_put_end {ls : List Int} {ns : List Node} {k : Key} {i : Nat} (h : TreeGood ls ns) (hk : keyOk k = true) (hw : whereIn ls k.blk k.age = i + 1) (h1 : i < ls.length) (h2 : i < ns.length) :
    treePut ls ns k = if treeOk (joined (putAt ls ns i ls[i] ns[i].sets k).1 (putAt ls ns i ls[i] ns[i].sets k).2).1 (joined (putAt ls ns i ls[i] ns[i].sets k).1 (putAt ls ns i ls[i] ns[i].sets k).2).2
      then ((joined (putAt ls ns i ls[i] ns[i].sets k).1 (putAt ls ns i ls[i] ns[i].sets k).2).1, (joined (putAt ls ns i ls[i] ns[i].sets k).1 (putAt ls ns i ls[i] ns[i].sets k).2).2, true) else (ls, ns, false) := by
  unfold treePut
  rw [treeOk_iff.2 h, hk, Bool.and_self, if_pos rfl, hw]
  simp only
  rw [List.getElem?_eq_getElem h1, List.getElem?_eq_getElem h2]
theorem tdiv2 {n : Nat} (h : n ≤ 1000000) : wr (Int.tdiv (wr ((n : Int) + 1)) 2) = (((n + 1) / 2 : Nat) : Int) := by
  rw [show wr ((n : Int) + 1) = ((n + 1 : Nat) : Int) from wr_eq (by omega) (by omega), show Int.tdiv ((n + 1 : Nat) : Int) 2 = (((n + 1) / 2 : Nat) : Int) from by rw [show (2 : Int) = ((2 : Nat) : Int) from rfl, ← Int.ofNat_tdiv]]
  exact wr_nat (by omega)
theorem impl_TreePut_eq (ls : List Int) (ns : List Node) (k : Key) (h : TB ls ns) (hK : 2147483648 ≤ K) : impl_TreePut K ls ns k.blk k.age k.kind k.cell k.gen = some ((treePut ls ns k).1, (treePut ls ns k).2.1, (treePut ls ns k).2.2, ()) := by
  unfold impl_TreePut
  rw [impl_TreeOk_eq ls ns h hK, bnd_some', br_not, impl_copyTree_eq ls ns h hK]
  simp only [bnd_some']
  cases hok : treeOk ls ns
  · unfold treePut; rw [hok]; rfl
  rw [br_true, impl_KeyOk_eq, bnd_some', br_not]
  cases hk : keyOk k
  · unfold treePut; rw [hok, hk]; rfl
  rw [br_true, impl_WhereIn_eq ls ns _ _ (by have := h.1; omega) hK, bnd_some']
  simp only
  have hg := treeOk_iff.1 hok
  obtain ⟨i, hw, hil, hin⟩ := whereIn_pos hg hk
  have hn := nodeOk_iff.1 (hg.node (List.getElem_mem hin))
  have hnb := h.nbs (List.getElem_mem hin)
  have hkl := keysWith_length ns[i].sets k
  rw [hw, show (((i + 1 : Nat) : Int) - 1) = (i : Int) by omega, inK_nat hin, idxK_get hin, impl_NodePut_eq _ k hnb hK, bnd_some']
  simp only [joinK_eq]
  have hjb := putAt_jb (k := k) hg hil hin
  have fin : ∀ (ls' : List Int) (ns' : List Node), (ls', ns') = putAt ls ns i ls[i] ns[i].sets k → (bnd (impl_merged_o K ls' ns') fun y10 => bnd (impl_TreeOk K y10.1 y10.2.1) fun y11 => br (!y11.1) (bnd (impl_copyTree K ls ns) fun y12 => some (y12.1, y12.2.1, false, ())) (some (y10.1, y10.2.1, true, ())) :
      Option (List Int × List Node × Bool × Unit)) = some ((treePut ls ns k).1, (treePut ls ns k).2.1, (treePut ls ns k).2.2, ()) := by
    intro ls' ns' he
    rw [← he] at hjb
    simp only at hjb
    have hj2 := JB.joinN ns'.length ls' ns' hjb.1
    rw [impl_merged_eq ls' ns' hjb.1 (by omega) hK, bnd_some']
    simp only
    rw [impl_TreeOk_eq _ _ (JB.tb (ls := (joined ls' ns').1) (ns := (joined ls' ns').2) hj2.1 (by have := hj2.2; unfold joined; omega)) hK, bnd_some', br_not, impl_copyTree_eq ls ns h hK, impl_put_end hg hk hw hil hin, ← he]
    simp only
    cases treeOk (joined ls' ns').1 (joined ls' ns').2 <;> rfl
  cases hp : (nodePut ns[i].sets k).2
  · have h8 := nodePut_false (hg.node (List.getElem_mem hin)) hk hp
    have hm : ((keysWith ns[i].sets k).length + 1) / 2 < (keysWith ns[i].sets k).length := by omega
    simp only [Bool.not_false, br_true]
    rw [inK_nat hin, idxK_get hin, impl_keysWith_eq _ k hnb.nb hK, bnd_some']
    simp only
    rw [tdiv2 (by omega), inK_nat hm, idxK_get hm, inK_nat hil, idxK_get hil, impl_SpotOf_eq, bnd_some', subK_zero (by omega), impl_NodeNew_eq _ (by simp; omega), bnd_some', subK_end (by omega), impl_NodeNew_eq _ (by simp; omega), bnd_some']
    rw [show (1 : Int) = ((1 : Nat) : Int) from rfl, impl_replaced_eq ls ns i 1 _ _ (by have := h.1; omega) (by have := h.2.1; omega) (by simp) (by simp) (by omega) (by omega), bnd_some']
    refine fin _ _ ?_
    unfold putAt
    rw [if_pos hp, drop_cons hm]
    rfl
  · simp only [Bool.not_true, br_false]
    have hpt := nodePut_true hp
    have hpn := nodeOk_iff.1 hpt
    have e5 : decide ((i : Int) > 0) = decide (i > 0) := decide_eq_decide.2 (by omega)
    rw [e5, impl_NodeKeys_eq _ ⟨by omega, by omega⟩ hK, bnd_some', dec_eq0, inK_nat hin, idxK_get hin]
    have hset : (ls, ns.set i ⟨(nodePut ns[i].sets k).1⟩) = (ls, List.set ns (Int.toNat (i : Int)) (⟨(nodePut ns[i].sets k).1⟩ : Node)) := rfl
    by_cases hi0 : i > 0
    · rw [decide_eq_true hi0, br_true]
      by_cases hz : (nodeKeys (nodePut ns[i].sets k).1).length = 0
      · rw [decide_eq_true hz, br_true, show (1 : Int) = ((1 : Nat) : Int) from rfl, impl_replaced_eq ls ns i 1 _ _ (by have := h.1; omega) (by have := h.2.1; omega) (by simp) (by simp) (by omega) (by omega), bnd_some']
        refine fin _ _ ?_
        unfold putAt
        rw [if_neg (by rw [hp]; simp), if_pos ⟨hi0, hz⟩]
      · rw [decide_eq_false hz, br_false]
        refine fin _ _ ?_
        unfold putAt
        rw [if_neg (by rw [hp]; simp), if_neg (by omega), hset]
    · rw [decide_eq_false hi0, br_false]
      refine fin _ _ ?_
      unfold putAt
      rw [if_neg (by rw [hp]; simp), if_neg (by omega), hset]
theorem spec_TreePut_eq (ls : List Int) (ns : List Node) (k : Key) (h : TB ls ns) (hK : 2147483648 ≤ K) : spec_TreePut K ls ns k.blk k.age k.kind k.cell k.gen = some ((treePut ls ns k).1, (treePut ls ns k).2.1, (treePut ls ns k).2.2, ()) := by
  unfold spec_TreePut
  rw [spec_l6Copy_eq ls ns h hK, bnd_some', spec_TreeOk_eq ls ns h hK, bnd_some', br_not]
  simp only
  cases hok : treeOk ls ns
  · unfold treePut; rw [hok]; rfl
  rw [br_true, spec_KeyOk_eq, bnd_some', br_not]
  cases hk : keyOk k
  · unfold treePut; rw [hok, hk]; rfl
  rw [br_true, spec_WhereIn_eq ls ns _ _ (by have := h.1; omega) hK, bnd_some']
  simp only
  have hg := treeOk_iff.1 hok
  obtain ⟨i, hw, hil, hin⟩ := whereIn_pos hg hk
  have hn := nodeOk_iff.1 (hg.node (List.getElem_mem hin))
  have hnb := h.nbs (List.getElem_mem hin)
  have hkl := keysWith_length ns[i].sets k
  rw [hw, show (((i + 1 : Nat) : Int) - 1) = (i : Int) by omega, inK_nat hin, idxK_get hin, spec_NodePut_eq _ k hnb hK, bnd_some', inK_nat hil, idxK_get hil]
  simp only [joinK_eq]
  rw [spec_l6Set_eq ls ns i _ _ (by have := h.1; omega) (by have := h.2.1; omega) (by simp) (by simp) (by omega) (by omega), bnd_some']
  have hjb := putAt_jb (k := k) hg hil hin
  have fin : ∀ (ls' : List Int) (ns' : List Node), (ls', ns') = putAt ls ns i ls[i] ns[i].sets k → (bnd (spec_l6Join_o K ls' ns') fun y10 => bnd (spec_TreeOk K y10.1 y10.2.1) fun y11 => br (!y11.1) (some (ls, ns, false, ())) (some (y10.1, y10.2.1, true, ())) :
      Option (List Int × List Node × Bool × Unit)) = some ((treePut ls ns k).1, (treePut ls ns k).2.1, (treePut ls ns k).2.2, ()) := by
    intro ls' ns' he
    rw [← he] at hjb
    simp only at hjb
    have hj2 := JB.joinN ns'.length ls' ns' hjb.1
    rw [spec_l6Join_eq ls' ns' hjb.1 (by omega) hK, bnd_some']
    simp only
    rw [spec_TreeOk_eq _ _ (JB.tb (ls := (joined ls' ns').1) (ns := (joined ls' ns').2) hj2.1 (by have := hj2.2; unfold joined; omega)) hK, bnd_some', br_not, impl_put_end hg hk hw hil hin, ← he]
    simp only
    cases treeOk (joined ls' ns').1 (joined ls' ns').2 <;> rfl
  cases hp : (nodePut ns[i].sets k).2
  · have h8 := nodePut_false (hg.node (List.getElem_mem hin)) hk hp
    have hm : ((keysWith ns[i].sets k).length + 1) / 2 < (keysWith ns[i].sets k).length := by omega
    have hnk := nodeKeys_length ns[i].sets
    have hsp := setPut_length (nodeKeys ns[i].sets) k
    simp only [Bool.not_false, br_true]
    rw [inK_nat hin, idxK_get hin, spec_NodeKeys_eq _ hnb.nb hK, bnd_some', spec_SetPut_eq _ k (by simp only; omega) hK, bnd_some', spec_Drop_eq _ (by simp only; omega) hK, bnd_some']
    simp only
    have ekw : dropNone (setPut (nodeKeys ns[i].sets) k) = keysWith ns[i].sets k := rfl
    rw [ekw, tdiv2 (by omega), inK_nat hil, idxK_get hil, inK_nat hm, idxK_get hm, spec_l6Spot_eq, bnd_some', subK_zero (by omega), spec_NodeNew_eq _ (by simp; omega), bnd_some', subK_end (by omega), spec_NodeNew_eq _ (by simp; omega), bnd_some']
    rw [spec_l6Set_eq ls ns i _ _ (by have := h.1; omega) (by have := h.2.1; omega) (by simp) (by simp) (by omega) (by omega), bnd_some']
    refine fin _ _ ?_
    unfold putAt
    rw [if_pos hp, drop_cons hm]
    rfl
  · simp only [Bool.not_true, br_false]
    have hpt := nodePut_true hp
    have hpn := nodeOk_iff.1 hpt
    have e5 : decide ((i : Int) > 0) = decide (i > 0) := decide_eq_decide.2 (by omega)
    rw [e5, spec_NodeKeys_eq _ ⟨by omega, by omega⟩ hK, bnd_some', dec_eq0, replL_same ls i hil, replL_set ns i _ hin]
    by_cases hi0 : i > 0
    · rw [decide_eq_true hi0, br_true]
      by_cases hz : (nodeKeys (nodePut ns[i].sets k).1).length = 0
      · rw [decide_eq_true hz, br_true, spec_l6Set_eq ls ns i _ _ (by have := h.1; omega) (by have := h.2.1; omega) (by simp) (by simp) (by omega) (by omega), bnd_some']
        refine fin _ _ ?_
        unfold putAt
        rw [if_neg (by rw [hp]; simp), if_pos ⟨hi0, hz⟩]
      · rw [decide_eq_false hz, br_false]
        refine fin _ _ ?_
        unfold putAt
        rw [if_neg (by rw [hp]; simp), if_neg (by omega)]
    · rw [decide_eq_false hi0, br_false]
      refine fin _ _ ?_
      unfold putAt
      rw [if_neg (by rw [hp]; simp), if_neg (by omega)]
def treePack (ns : List Node) (i : Int) : List Node := match ns[i.toNat]? with
  | some x => if 0 ≤ i then ns.set i.toNat ⟨nodePack x.sets⟩ else ns
  | none => ns
theorem inR_idx {i : Int} {n : Nat} (h : n ≤ 1073741824) : inR i 0 (wr ((n : Int) - 1)) = decide (0 ≤ i ∧ i.toNat < n) := by
  rw [show wr ((n : Int) - 1) = (n : Int) - 1 from wr_of (by omega) (by omega)]
  unfold inR
  rw [Bool.eq_iff_iff]
  simp
  omega
theorem spec_TreePack_eq (ls : List Int) (ns : List Node) (i : Int) (h : TB ls ns) (hK : 2147483648 ≤ K) : spec_TreePack K ls ns i = some (ls, treePack ns i, ()) := by
  unfold spec_TreePack
  rw [spec_l6Copy_eq ls ns h hK, bnd_some', spec_l1In_eq, inR_idx (by have := h.2.1; omega)]
  simp only [joinK_eq, bnd_some']
  unfold treePack
  by_cases hi : 0 ≤ i ∧ i.toNat < ns.length
  · obtain ⟨j, rfl⟩ := Int.eq_ofNat_of_zero_le hi.1
    have hj : j < ns.length := by have := hi.2; omega
    rw [decide_eq_true hi, br_true, inK_nat hj, idxK_get hj, spec_NodePack_eq _ (h.nb (List.getElem_mem hj)) hK, bnd_some', inK_nat hj, idxK_get hj, Int.toNat_natCast, List.getElem?_eq_getElem hj]
    simp only
    rw [if_pos hi.1]
  · rw [decide_eq_false hi, br_false]
    split
    · rename_i x hx
      have := (List.getElem?_eq_some_iff.1 hx).1
      rw [if_neg (by omega)]
    · rfl
end
end Go.Proofs.Fw.R1
set_option linter.unusedVariables false
set_option linter.unusedSimpArgs false
namespace Go.Proofs.Fw.R1
open Go.Proofs.Fw
def findI {α : Type} (p : α → Bool) : List α → Nat → Option Nat
  | [], _ => none
  | x :: r, j => if p x then some j else findI p r (j + 1)
theorem findI_some {α : Type} {p : α → Bool} : ∀ {l : List α} {j i : Nat}, findI p l j = some i → j ≤ i ∧ ∃ h : i - j < l.length, p l[i - j] = true
  | [], _, _, h => by simp [findI] at h
  | x :: r, j, i, h => by
    simp only [findI] at h
    split at h
    · rename_i hp
      simp only [Option.some.injEq] at h; subst h
      exact ⟨Nat.le_refl _, by simp, by simpa using hp⟩
    · obtain ⟨h1, h2, h3⟩ := findI_some h
      refine ⟨by omega, by simp only [List.length_cons]; omega, ?_⟩
      have e : i - j = (i - (j + 1)) + 1 := by omega
      simp only [e, List.getElem_cons_succ]
      exact h3
theorem findI_none {α : Type} {p : α → Bool} : ∀ {l : List α} {j : Nat}, findI p l j = none ↔ ∀ x ∈ l, p x = false
  | [], j => by simp [findI]
  | x :: r, j => by
    simp only [findI]
    cases hx : p x
    · simp only [Bool.false_eq_true, if_false]
      rw [findI_none]
      simp [hx]
    · simp [hx]
theorem findI_cons {α : Type} (p : α → Bool) (x : α) (r : List α) (j : Nat) : findI p (x :: r) j = cond (p x) (some j) (findI p r (j + 1)) := by
  simp only [findI]
  cases p x <;> rfl
theorem pairRes_neg (o : Option Nat) : decide (pairRes o < 0) = o.isNone := by
  cases o with
  | none => rfl
  | some i => exact decide_eq_false (by simp [pairRes])
theorem pairRes_ge (o : Option Nat) : decide (pairRes o ≥ 0) = o.isSome := by
  cases o with
  | none => rfl
  | some i => exact decide_eq_true (by simp [pairRes])
def ageAt (l : List Age) (i : Int) : Option Nat := findI (fun a => decide (a.id = i)) l 0
section
variable {K : Nat}
theorem spec_AgeAt_eq (l : List Age) (i : Int) (h : l.length ≤ 1073741824) (hK : 2147483648 ≤ K) : spec_AgeAt K l i = some (pairRes (ageAt l i), ()) := by
  unfold spec_AgeAt
  refine (loop_ix (fun j (_ : Unit) => (l, i, (j : Int), ())) l.length (fun _ _ => True) (fun j _ => some (pairRes (findI (fun a => decide (a.id = i)) (l.drop j) j), ())) ?_ ?_ (Nat.zero_le _) (by omega) (j0 := 0) (a0 := ()) trivial).trans rfl
  · intro rec j _ hj _ hrec
    have hr := hrec () trivial
    simp only [Int.ofNat_lt, hj, decide_true, decide_false, br_true, br_false, br_not, bnd_some', joinK_eq, inK_nat hj, idxK_get hj, wr_succ (show j < 9223372036854775807 by omega), key_eta]
    rw [drop_cons hj, findI_cons]
    cases decide (l[j].id = i)
    · exact hr
    · rfl
  · intro rec _ _
    simp only [Int.ofNat_lt, Nat.lt_irrefl, decide_true, decide_false, br_true, br_false, br_not, bnd_some', joinK_eq, List.drop_length, key_eta]
    rfl
theorem ageIdx_eq (l : List Age) (i : Int) (h : l.length ≤ 1073741824) (hK : 2147483648 ≤ K) : slices_IndexFunc__impl_Age_impl_Age_impl_AgeAt_1 K l i = some (pairRes (ageAt l i), ()) := by
  unfold slices_IndexFunc__impl_Age_impl_Age_impl_AgeAt_1
  refine (loop_ix (fun j (_ : Unit) => (l, (j : Int), (l.length : Int), i, ())) l.length (fun _ _ => True) (fun j _ => some (pairRes (findI (fun a => decide (a.id = i)) (l.drop j) j), ())) ?_ ?_ (Nat.zero_le _) (by omega) (j0 := 0) (a0 := ()) trivial).trans rfl
  · intro rec j _ hj _ hrec
    have hr := hrec () trivial
    simp only [Int.ofNat_lt, hj, decide_true, decide_false, br_true, br_false, br_not, bnd_some', joinK_eq, inK_nat hj, idxK_get hj, wr_succ (show j < 9223372036854775807 by omega), key_eta, impl_AgeAt_1]
    rw [drop_cons hj, findI_cons]
    cases decide (l[j].id = i)
    · exact hr
    · rfl
  · intro rec _ _
    simp only [Int.ofNat_lt, Nat.lt_irrefl, decide_true, decide_false, br_true, br_false, br_not, bnd_some', joinK_eq, List.drop_length, key_eta]
    rfl
theorem impl_AgeAt_eq (l : List Age) (i : Int) (h : l.length ≤ 1073741824) (hK : 2147483648 ≤ K) : impl_AgeAt K l i = some (pairRes (ageAt l i), ()) := by
  unfold impl_AgeAt
  rw [ageIdx_eq l i h hK]
  rfl
def agesOkAt (l : List Age) (j : Nat) : Bool := match l[j]? with
  | some x => inR x.id 1 60 && ((decide (j = 0) || !decide ((l.getD (j - 1) ⟨0, 0⟩).id ≥ x.id)) && (decide (x.from_ = 0) || (ageAt (l.take j) x.from_).isSome))
  | none => false
def agesOk (l : List Age) : Bool := (List.range' 0 l.length).all (agesOkAt l) && decide (l.length ≤ 16)
theorem ages_chk {R : Type} (l : List Age) (j : Nat) (h : j < l.length) (F N N' : Option R) (hl : l.length ≤ 1073741824) (hN : j = 0 → N = N') :
    br (decide ((j : Int) > 0)) (inK l (wr ((j : Int) - 1)) <| idxK l (wr ((j : Int) - 1)) fun x4 => br (decide (x4.id ≥ l[j].id)) F N) N' = if decide (j = 0) || !decide ((l.getD (j - 1) ⟨0, 0⟩).id ≥ l[j].id) then N else F := by
  cases j with
  | zero => rw [hN rfl]; rfl
  | succ i =>
    rw [decide_eq_true (show ((i + 1 : Nat) : Int) > 0 by omega), br_true, wr_pred (by omega), inK_nat (show i < l.length by omega), idxK_get (show i < l.length by omega)]
    have e : l.getD (i + 1 - 1) ⟨0, 0⟩ = l[i] := getD_get (by omega) _
    rw [e]
    cases decide (l[i].id ≥ l[i + 1].id) <;> simp
theorem from_chk {R : Type} (l : List Age) (j : Nat) (h : j < l.length) (F N : Option R) (f : List Age → Int → Option (Int × Unit)) (hf : f (l.take j) l[j].from_ = some (pairRes (ageAt (l.take j) l[j].from_), ())) :
    br (decide (l[j].from_ ≠ 0)) (subK l (0 : Int) (j : Int) fun z5 => bnd (f z5 l[j].from_) fun y6 => br (decide (y6.1 < (0 : Int))) F N) N = if decide (l[j].from_ = 0) || (ageAt (l.take j) l[j].from_).isSome then N else F := by
  rw [subK_zero (by omega), hf, bnd_some']
  simp only
  rw [pairRes_neg]
  by_cases h0 : l[j].from_ = 0
  · rw [decide_eq_false (by simp [h0]), br_false, decide_eq_true h0]; rfl
  · rw [decide_eq_true (show l[j].from_ ≠ 0 from h0), br_true, decide_eq_false h0]
    cases ageAt (l.take j) l[j].from_ <;> rfl
theorem spec_AgesOk_eq (l : List Age) (h : l.length ≤ 1073741824) (hK : 2147483648 ≤ K) : spec_AgesOk K l = some (agesOk l, ()) := by
  unfold spec_AgesOk agesOk
  refine (loop_ix (fun j (_ : Unit) => (l, (j : Int), ())) l.length (fun _ _ => True) (fun j _ => some ((List.range' j (l.length - j)).all (agesOkAt l) && decide (l.length ≤ 16), ())) ?_ ?_ (Nat.zero_le _) (by omega) (j0 := 0) (a0 := ()) trivial).trans rfl
  · intro rec j _ hj _ hrec
    have hr := hrec () trivial
    simp only [Int.ofNat_lt, hj, decide_true, decide_false, br_true, br_false, br_not, bnd_some', joinK_eq, inK_nat hj, idxK_get hj, wr_succ (show j < 9223372036854775807 by omega), key_eta, spec_l1In_eq, hr]
    have hf := from_chk (R := Bool × Unit) l j hj (some (false, ())) (some ((List.range' (j + 1) (l.length - (j + 1))).all (agesOkAt l) && decide (l.length ≤ 16), ())) (spec_AgeAt K) (spec_AgeAt_eq _ _ (by simp; omega) hK)
    rw [hf, ages_chk l j hj _ _ _ (by omega) (fun e => rfl), range_all hj]
    have e : agesOkAt l j = (inR l[j].id 1 60 && ((decide (j = 0) || !decide ((l.getD (j - 1) ⟨0, 0⟩).id ≥ l[j].id)) && (decide (l[j].from_ = 0) || (ageAt (l.take j) l[j].from_).isSome))) := by
      unfold agesOkAt
      rw [List.getElem?_eq_getElem hj]
    rw [e]
    cases inR l[j].id 1 60
    · rfl
    · cases decide (j = 0) || !decide ((l.getD (j - 1) ⟨0, 0⟩).id ≥ l[j].id)
      · rfl
      · cases decide (l[j].from_ = 0) || (ageAt (l.take j) l[j].from_).isSome <;> rfl
  · intro rec _ _
    simp only [Int.ofNat_lt, Nat.lt_irrefl, decide_true, decide_false, br_true, br_false, br_not, bnd_some', joinK_eq, List.drop_length, key_eta, range_all_end, Bool.true_and]
    have e := dec_le l.length 16
    rw [← e]; rfl
theorem impl_AgesOk_eq (l : List Age) (h : l.length ≤ 1073741824) (hK : 2147483648 ≤ K) : impl_AgesOk K l = some (agesOk l, ()) := by
  unfold impl_AgesOk agesOk
  refine (loop_ix (fun j (_ : Unit) => (l, l, (j : Int), (l.length : Int), ())) l.length (fun _ _ => True) (fun j _ => some ((List.range' j (l.length - j)).all (agesOkAt l) && decide (l.length ≤ 16), ())) ?_ ?_ (Nat.zero_le _) (by omega) (j0 := 0) (a0 := ()) trivial).trans rfl
  · intro rec j _ hj _ hrec
    have hr := hrec () trivial
    simp only [Int.ofNat_lt, hj, decide_true, decide_false, br_true, br_false, br_not, bnd_some', joinK_eq, inK_nat hj, idxK_get hj, wr_succ (show j < 9223372036854775807 by omega), key_eta, impl_within_eq, hr]
    have hf := from_chk (R := Bool × Unit) l j hj (some (false, ())) (some ((List.range' (j + 1) (l.length - (j + 1))).all (agesOkAt l) && decide (l.length ≤ 16), ())) (impl_AgeAt K) (impl_AgeAt_eq _ _ (by simp; omega) hK)
    rw [hf, ages_chk l j hj _ _ _ (by omega) (fun e => rfl), range_all hj]
    have e : agesOkAt l j = (inR l[j].id 1 60 && ((decide (j = 0) || !decide ((l.getD (j - 1) ⟨0, 0⟩).id ≥ l[j].id)) && (decide (l[j].from_ = 0) || (ageAt (l.take j) l[j].from_).isSome))) := by
      unfold agesOkAt
      rw [List.getElem?_eq_getElem hj]
    rw [e]
    cases inR l[j].id 1 60
    · rfl
    · cases decide (j = 0) || !decide ((l.getD (j - 1) ⟨0, 0⟩).id ≥ l[j].id)
      · rfl
      · cases decide (l[j].from_ = 0) || (ageAt (l.take j) l[j].from_).isSome <;> rfl
  · intro rec _ _
    simp only [Int.ofNat_lt, Nat.lt_irrefl, decide_true, decide_false, br_true, br_false, br_not, bnd_some', joinK_eq, List.drop_length, key_eta, range_all_end, Bool.true_and]
    have e := dec_le l.length 16
    rw [← e]; rfl
def pathN (l : List Age) : Nat → Int → List Int
  | 0, _ => []
  | n + 1, i => match ageAt l i with
    | none => []
    | some p => i :: pathN l n (l.getD p ⟨0, 0⟩).from_
def pathOf (l : List Age) (i : Int) : List Int := pathN l (l.length + 1) i
theorem ageAt_get {l : List Age} {i : Int} {p : Nat} (h : ageAt l i = some p) : ∃ h : p < l.length, l[p].id = i := by
  obtain ⟨h1, h2, h3⟩ := findI_some h
  exact ⟨h2, of_decide_eq_true h3⟩
theorem pathN_length (l : List Age) : ∀ (n : Nat) (i : Int), (pathN l n i).length ≤ n
  | 0, _ => Nat.le_refl _
  | n + 1, i => by
    unfold pathN
    split
    · simp
    · have := pathN_length l n (l.getD (by assumption) ⟨0, 0⟩).from_
      simp only [List.length_cons]; omega
theorem impl_PathOf_eq (l : List Age) (i : Int) (h : l.length ≤ 1073741824) (hK : 2147483648 ≤ K) : impl_PathOf K l i = some (pathOf l i, ()) := by
  have e1 : wr ((l.length : Int) + 1) = ((l.length + 1 : Nat) : Int) := wr_eq (by omega) (by omega)
  unfold impl_PathOf
  simp only [joinK_eq]
  rw [e1]
  refine (loop_ix (fun j (a : List Int × Int) => (a.1, a.2, l, (j : Int), ((l.length + 1 : Nat) : Int), ())) (l.length + 1) (fun j a => a.1.length = j) (fun j a => some (a.1 ++ pathN l (l.length + 1 - j) a.2, ())) ?_ ?_ (Nat.zero_le _) (by omega) (j0 := 0) (a0 := ([], i)) rfl).trans rfl
  · rintro rec j ⟨out, i⟩ hj hi hrec
    simp only at hi hrec ⊢
    rw [decide_eq_true (show (j : Int) < ((l.length + 1 : Nat) : Int) by omega), br_true, impl_AgeAt_eq l i h hK, bnd_some']
    simp only
    rw [pairRes_neg, show l.length + 1 - j = (l.length - j) + 1 by omega]
    unfold pathN
    cases ha : ageAt l i with
    | none => simp [br]
    | some p =>
      obtain ⟨hp, _⟩ := ageAt_get ha
      simp only [Option.isNone_some, br_false, pairRes]
      rw [appK_ok (by simp; omega), inK_nat hp, idxK_get hp, show wr ((j : Int) + 1) = ((j + 1 : Nat) : Int) from wr_succ (by omega), hrec (_, _) (by simp; omega), getD_get hp]
      simp only
      rw [show l.length + 1 - (j + 1) = l.length - j by omega]
      simp
  · rintro rec ⟨out, i⟩ hi
    simp only at hi ⊢
    rw [decide_eq_false (by omega), br_false]
    simp [pathN]
theorem spec_PathOf_eq (l : List Age) (i : Int) (h : l.length ≤ 1073741824) (hK : 2147483648 ≤ K) : spec_PathOf K l i = some (pathOf l i, ()) := by
  unfold spec_PathOf
  rw [spec_AgeAt_eq l i h hK, bnd_some']
  refine (loop_ix (fun j (a : List Int × Int) => (a.1, l, pairRes (ageAt l a.2), ())) (l.length + 1) (fun j a => a.1.length = j) (fun j a => some (a.1 ++ pathN l (l.length + 1 - j) a.2, ())) ?_ ?_ (Nat.zero_le _) (by omega) (j0 := 0) (a0 := ([], i)) rfl).trans rfl
  · rintro rec j ⟨out, i⟩ hj hi hrec
    simp only at hi hrec ⊢
    rw [pairRes_ge, show l.length + 1 - j = (l.length - j) + 1 by omega]
    unfold pathN
    cases ha : ageAt l i with
    | none => simp [br]
    | some p =>
      obtain ⟨hp, hid⟩ := ageAt_get ha
      simp only [Option.isSome_some, br_true, pairRes]
      have e2 : decide ((out.length : Int) ≤ (l.length : Int)) = true := decide_eq_true (by omega)
      rw [e2, br_true, inK_nat hp, idxK_get hp, appK_ok (by simp; omega), inK_nat hp, idxK_get hp, spec_AgeAt_eq l _ h hK, bnd_some', hrec (_, l[p].from_) (by simp; omega), getD_get hp, hid]
      simp only
      rw [show l.length + 1 - (j + 1) = l.length - j by omega]
      simp
  · rintro rec ⟨out, i⟩ hi
    simp only at hi ⊢
    have e2 : decide ((out.length : Int) ≤ (l.length : Int)) = false := decide_eq_false (by omega)
    rw [e2, br_false]
    cases decide (pairRes (ageAt l i) ≥ 0) <;> simp [pathN, br]
end
end Go.Proofs.Fw.R1
