/- Of our texts what the law leans on, in the order in which they build: XT, L00, M1, L0, L1, L2, L3, L4, L5, L6, L7, LA, L8, LB, L9, L10, L11, L12. No condition. -/
import Derived.Test.YtpggfnggffedlaaZQ2
import Derived.Test.YtpggfnggffedlaaProg
import Derived.KernelRfl
import Derived.Laws.Strings
set_option linter.unusedVariables false
set_option linter.unusedSimpArgs false
namespace Go.Proofs.Ytpggfnggffedlaa.Ae
open Go Go.RowKit
attribute [simp] Try.underlying2
@[simp] theorem tc2 : Try.prog.cellsOf 2 = 1 := by kernel_rfl
@[simp] theorem tb2 : Try.prog.bytesOf 2 = 8 := by kernel_rfl
@[simp] theorem ti2 : (Try.prog.info? 2).isSome = true := by kernel_rfl
@[simp] theorem tz2 : (Try.prog.info? 2).bind (·.zero) = some (.int .i64 0) := by kernel_rfl
attribute [simp] Try.underlying3
@[simp] theorem tc3 : Try.prog.cellsOf 3 = 1 := by kernel_rfl
@[simp] theorem tb3 : Try.prog.bytesOf 3 = 8 := by kernel_rfl
@[simp] theorem ti3 : (Try.prog.info? 3).isSome = true := by kernel_rfl
@[simp] theorem tz3 : (Try.prog.info? 3).bind (·.zero) = some (.int .i64 0) := by kernel_rfl
attribute [simp] Try.underlying4
@[simp] theorem tc4 : Try.prog.cellsOf 4 = 1 := by kernel_rfl
@[simp] theorem tb4 : Try.prog.bytesOf 4 = 1 := by kernel_rfl
@[simp] theorem ti4 : (Try.prog.info? 4).isSome = true := by kernel_rfl
@[simp] theorem tz4 : (Try.prog.info? 4).bind (·.zero) = some (.bool false) := by kernel_rfl
attribute [simp] Try.underlying5
@[simp] theorem tc5 : Try.prog.cellsOf 5 = 1 := by kernel_rfl
@[simp] theorem tb5 : Try.prog.bytesOf 5 = 1 := by kernel_rfl
@[simp] theorem ti5 : (Try.prog.info? 5).isSome = true := by kernel_rfl
@[simp] theorem tz5 : (Try.prog.info? 5).bind (·.zero) = some (.int .u8 0) := by kernel_rfl
attribute [simp] Try.underlying9
@[simp] theorem tc9 : Try.prog.cellsOf 9 = 1 := by kernel_rfl
@[simp] theorem tb9 : Try.prog.bytesOf 9 = 16 := by kernel_rfl
@[simp] theorem ti9 : (Try.prog.info? 9).isSome = true := by kernel_rfl
@[simp] theorem tz9 : (Try.prog.info? 9).bind (·.zero) = some (.string ⟨#[]⟩) := by kernel_rfl
attribute [simp] Try.underlying12
@[simp] theorem tc12 : Try.prog.cellsOf 12 = 1 := by kernel_rfl
@[simp] theorem tb12 : Try.prog.bytesOf 12 = 8 := by kernel_rfl
@[simp] theorem ti12 : (Try.prog.info? 12).isSome = true := by kernel_rfl
@[simp] theorem tz12 : (Try.prog.info? 12).bind (·.zero) = some (.int .u64 0) := by kernel_rfl
attribute [simp] Try.underlying13
@[simp] theorem tc13 : Try.prog.cellsOf 13 = 2 := by kernel_rfl
@[simp] theorem tb13 : Try.prog.bytesOf 13 = 24 := by kernel_rfl
@[simp] theorem ti13 : (Try.prog.info? 13).isSome = true := by kernel_rfl
@[simp] theorem tz13 : (Try.prog.info? 13).bind (·.zero) = some (.agg #[(.string ⟨#[]⟩), (.int .u64 0)]) := by kernel_rfl
attribute [simp] Try.underlying19
@[simp] theorem tc19 : Try.prog.cellsOf 19 = 1 := by kernel_rfl
@[simp] theorem tb19 : Try.prog.bytesOf 19 = 8 := by kernel_rfl
@[simp] theorem ti19 : (Try.prog.info? 19).isSome = true := by kernel_rfl
@[simp] theorem tz19 : (Try.prog.info? 19).bind (·.zero) = some (.agg #[(.pointer none)]) := by kernel_rfl
attribute [simp] Try.underlying21
@[simp] theorem tc21 : Try.prog.cellsOf 21 = 1 := by kernel_rfl
@[simp] theorem tb21 : Try.prog.bytesOf 21 = 4 := by kernel_rfl
@[simp] theorem ti21 : (Try.prog.info? 21).isSome = true := by kernel_rfl
@[simp] theorem tz21 : (Try.prog.info? 21).bind (·.zero) = some (.int .i32 0) := by kernel_rfl
attribute [simp] Try.underlying22
@[simp] theorem tc22 : Try.prog.cellsOf 22 = 1 := by kernel_rfl
@[simp] theorem tb22 : Try.prog.bytesOf 22 = 24 := by kernel_rfl
@[simp] theorem ti22 : (Try.prog.info? 22).isSome = true := by kernel_rfl
@[simp] theorem tz22 : (Try.prog.info? 22).bind (·.zero) = some (.slice none 0 0) := by kernel_rfl
attribute [simp] Try.underlying23
@[simp] theorem tc23 : Try.prog.cellsOf 23 = 1 := by kernel_rfl
@[simp] theorem tb23 : Try.prog.bytesOf 23 = 24 := by kernel_rfl
@[simp] theorem ti23 : (Try.prog.info? 23).isSome = true := by kernel_rfl
@[simp] theorem tz23 : (Try.prog.info? 23).bind (·.zero) = some (.slice none 0 0) := by kernel_rfl
attribute [simp] Try.underlying24
@[simp] theorem tc24 : Try.prog.cellsOf 24 = 2 := by kernel_rfl
@[simp] theorem tb24 : Try.prog.bytesOf 24 = 48 := by kernel_rfl
@[simp] theorem ti24 : (Try.prog.info? 24).isSome = true := by kernel_rfl
@[simp] theorem tz24 : (Try.prog.info? 24).bind (·.zero) = some (.agg #[(.slice none 0 0), (.slice none 0 0)]) := by kernel_rfl
attribute [simp] Try.underlying25
@[simp] theorem tc25 : Try.prog.cellsOf 25 = 2 := by kernel_rfl
@[simp] theorem tb25 : Try.prog.bytesOf 25 = 48 := by kernel_rfl
@[simp] theorem ti25 : (Try.prog.info? 25).isSome = true := by kernel_rfl
@[simp] theorem tz25 : (Try.prog.info? 25).bind (·.zero) = some (.agg #[(.slice none 0 0), (.slice none 0 0)]) := by kernel_rfl
attribute [simp] Try.underlying27
@[simp] theorem tc27 : Try.prog.cellsOf 27 = 1 := by kernel_rfl
@[simp] theorem tb27 : Try.prog.bytesOf 27 = 24 := by kernel_rfl
@[simp] theorem ti27 : (Try.prog.info? 27).isSome = true := by kernel_rfl
@[simp] theorem tz27 : (Try.prog.info? 27).bind (·.zero) = some (.slice none 0 0) := by kernel_rfl
attribute [simp] Try.underlying30
@[simp] theorem tc30 : Try.prog.cellsOf 30 = 1 := by kernel_rfl
@[simp] theorem tb30 : Try.prog.bytesOf 30 = 24 := by kernel_rfl
@[simp] theorem ti30 : (Try.prog.info? 30).isSome = true := by kernel_rfl
@[simp] theorem tz30 : (Try.prog.info? 30).bind (·.zero) = some (.slice none 0 0) := by kernel_rfl
attribute [simp] Try.underlying31
@[simp] theorem tc31 : Try.prog.cellsOf 31 = 1 := by kernel_rfl
@[simp] theorem tb31 : Try.prog.bytesOf 31 = 24 := by kernel_rfl
@[simp] theorem ti31 : (Try.prog.info? 31).isSome = true := by kernel_rfl
@[simp] theorem tz31 : (Try.prog.info? 31).bind (·.zero) = some (.slice none 0 0) := by kernel_rfl
attribute [simp] Try.underlying32
@[simp] theorem tc32 : Try.prog.cellsOf 32 = 2 := by kernel_rfl
@[simp] theorem tb32 : Try.prog.bytesOf 32 = 48 := by kernel_rfl
@[simp] theorem ti32 : (Try.prog.info? 32).isSome = true := by kernel_rfl
@[simp] theorem tz32 : (Try.prog.info? 32).bind (·.zero) = some (.agg #[(.slice none 0 0), (.slice none 0 0)]) := by kernel_rfl
attribute [simp] Try.underlying33
@[simp] theorem tc33 : Try.prog.cellsOf 33 = 2 := by kernel_rfl
@[simp] theorem tb33 : Try.prog.bytesOf 33 = 48 := by kernel_rfl
@[simp] theorem ti33 : (Try.prog.info? 33).isSome = true := by kernel_rfl
@[simp] theorem tz33 : (Try.prog.info? 33).bind (·.zero) = some (.agg #[(.slice none 0 0), (.slice none 0 0)]) := by kernel_rfl
attribute [simp] Try.underlying40
@[simp] theorem tc40 : Try.prog.cellsOf 40 = 1 := by kernel_rfl
@[simp] theorem tb40 : Try.prog.bytesOf 40 = 24 := by kernel_rfl
@[simp] theorem ti40 : (Try.prog.info? 40).isSome = true := by kernel_rfl
@[simp] theorem tz40 : (Try.prog.info? 40).bind (·.zero) = some (.slice none 0 0) := by kernel_rfl
attribute [simp] Try.underlying41
@[simp] theorem tc41 : Try.prog.cellsOf 41 = 2 := by kernel_rfl
@[simp] theorem tb41 : Try.prog.bytesOf 41 = 32 := by kernel_rfl
@[simp] theorem ti41 : (Try.prog.info? 41).isSome = true := by kernel_rfl
@[simp] theorem tz41 : (Try.prog.info? 41).bind (·.zero) = some (.agg #[(.int .i64 0), (.slice none 0 0)]) := by kernel_rfl
attribute [simp] Try.underlying42
@[simp] theorem tc42 : Try.prog.cellsOf 42 = 2 := by kernel_rfl
@[simp] theorem tb42 : Try.prog.bytesOf 42 = 32 := by kernel_rfl
@[simp] theorem ti42 : (Try.prog.info? 42).isSome = true := by kernel_rfl
@[simp] theorem tz42 : (Try.prog.info? 42).bind (·.zero) = some (.agg #[(.int .i64 0), (.slice none 0 0)]) := by kernel_rfl
attribute [simp] Try.underlying44
@[simp] theorem tc44 : Try.prog.cellsOf 44 = 1 := by kernel_rfl
@[simp] theorem tb44 : Try.prog.bytesOf 44 = 24 := by kernel_rfl
@[simp] theorem ti44 : (Try.prog.info? 44).isSome = true := by kernel_rfl
@[simp] theorem tz44 : (Try.prog.info? 44).bind (·.zero) = some (.slice none 0 0) := by kernel_rfl
attribute [simp] Try.underlying47
@[simp] theorem tc47 : Try.prog.cellsOf 47 = 1 := by kernel_rfl
@[simp] theorem tb47 : Try.prog.bytesOf 47 = 24 := by kernel_rfl
@[simp] theorem ti47 : (Try.prog.info? 47).isSome = true := by kernel_rfl
@[simp] theorem tz47 : (Try.prog.info? 47).bind (·.zero) = some (.slice none 0 0) := by kernel_rfl
attribute [simp] Try.underlying48
@[simp] theorem tc48 : Try.prog.cellsOf 48 = 2 := by kernel_rfl
@[simp] theorem tb48 : Try.prog.bytesOf 48 = 32 := by kernel_rfl
@[simp] theorem ti48 : (Try.prog.info? 48).isSome = true := by kernel_rfl
@[simp] theorem tz48 : (Try.prog.info? 48).bind (·.zero) = some (.agg #[(.int .i64 0), (.slice none 0 0)]) := by kernel_rfl
attribute [simp] Try.underlying49
@[simp] theorem tc49 : Try.prog.cellsOf 49 = 2 := by kernel_rfl
@[simp] theorem tb49 : Try.prog.bytesOf 49 = 32 := by kernel_rfl
@[simp] theorem ti49 : (Try.prog.info? 49).isSome = true := by kernel_rfl
@[simp] theorem tz49 : (Try.prog.info? 49).bind (·.zero) = some (.agg #[(.int .i64 0), (.slice none 0 0)]) := by kernel_rfl
attribute [simp] Try.underlying56
@[simp] theorem tc56 : Try.prog.cellsOf 56 = 2 := by kernel_rfl
@[simp] theorem tb56 : Try.prog.bytesOf 56 = 16 := by kernel_rfl
@[simp] theorem ti56 : (Try.prog.info? 56).isSome = true := by kernel_rfl
@[simp] theorem tz56 : (Try.prog.info? 56).bind (·.zero) = some (.agg #[(.int .i64 0), (.int .i64 0)]) := by kernel_rfl
attribute [simp] Try.underlying57
@[simp] theorem tc57 : Try.prog.cellsOf 57 = 2 := by kernel_rfl
@[simp] theorem tb57 : Try.prog.bytesOf 57 = 16 := by kernel_rfl
@[simp] theorem ti57 : (Try.prog.info? 57).isSome = true := by kernel_rfl
@[simp] theorem tz57 : (Try.prog.info? 57).bind (·.zero) = some (.agg #[(.int .i64 0), (.int .i64 0)]) := by kernel_rfl
attribute [simp] Try.underlying66
@[simp] theorem tc66 : Try.prog.cellsOf 66 = 6 := by kernel_rfl
@[simp] theorem tb66 : Try.prog.bytesOf 66 = 48 := by kernel_rfl
@[simp] theorem ti66 : (Try.prog.info? 66).isSome = true := by kernel_rfl
@[simp] theorem tz66 : (Try.prog.info? 66).bind (·.zero) = some (.agg #[(.int .i64 0), (.int .i64 0), (.int .i64 0), (.int .i64 0), (.int .i64 0), (.int .i64 0)]) := by kernel_rfl
attribute [simp] Try.underlying67
@[simp] theorem tc67 : Try.prog.cellsOf 67 = 6 := by kernel_rfl
@[simp] theorem tb67 : Try.prog.bytesOf 67 = 48 := by kernel_rfl
@[simp] theorem ti67 : (Try.prog.info? 67).isSome = true := by kernel_rfl
@[simp] theorem tz67 : (Try.prog.info? 67).bind (·.zero) = some (.agg #[(.int .i64 0), (.int .i64 0), (.int .i64 0), (.int .i64 0), (.int .i64 0), (.int .i64 0)]) := by kernel_rfl
attribute [simp] Try.underlying68
@[simp] theorem tc68 : Try.prog.cellsOf 68 = 1 := by kernel_rfl
@[simp] theorem tb68 : Try.prog.bytesOf 68 = 24 := by kernel_rfl
@[simp] theorem ti68 : (Try.prog.info? 68).isSome = true := by kernel_rfl
@[simp] theorem tz68 : (Try.prog.info? 68).bind (·.zero) = some (.slice none 0 0) := by kernel_rfl
attribute [simp] Try.underlying69
@[simp] theorem tc69 : Try.prog.cellsOf 69 = 3 := by kernel_rfl
@[simp] theorem tb69 : Try.prog.bytesOf 69 = 24 := by kernel_rfl
@[simp] theorem ti69 : (Try.prog.info? 69).isSome = true := by kernel_rfl
@[simp] theorem tz69 : (Try.prog.info? 69).bind (·.zero) = some (.agg #[(.int .i64 0), (.int .i64 0), (.int .i64 0)]) := by kernel_rfl
attribute [simp] Try.underlying70
@[simp] theorem tc70 : Try.prog.cellsOf 70 = 3 := by kernel_rfl
@[simp] theorem tb70 : Try.prog.bytesOf 70 = 24 := by kernel_rfl
@[simp] theorem ti70 : (Try.prog.info? 70).isSome = true := by kernel_rfl
@[simp] theorem tz70 : (Try.prog.info? 70).bind (·.zero) = some (.agg #[(.int .i64 0), (.int .i64 0), (.int .i64 0)]) := by kernel_rfl
attribute [simp] Try.underlying74
@[simp] theorem tc74 : Try.prog.cellsOf 74 = 1 := by kernel_rfl
@[simp] theorem tb74 : Try.prog.bytesOf 74 = 24 := by kernel_rfl
@[simp] theorem ti74 : (Try.prog.info? 74).isSome = true := by kernel_rfl
@[simp] theorem tz74 : (Try.prog.info? 74).bind (·.zero) = some (.slice none 0 0) := by kernel_rfl
attribute [simp] Try.underlying76
@[simp] theorem tc76 : Try.prog.cellsOf 76 = 1 := by kernel_rfl
@[simp] theorem tb76 : Try.prog.bytesOf 76 = 8 := by kernel_rfl
@[simp] theorem ti76 : (Try.prog.info? 76).isSome = true := by kernel_rfl
@[simp] theorem tz76 : (Try.prog.info? 76).bind (·.zero) = some (.int .u64 0) := by kernel_rfl
attribute [simp] Try.underlying83
@[simp] theorem tc83 : Try.prog.cellsOf 83 = 9 := by kernel_rfl
@[simp] theorem tb83 : Try.prog.bytesOf 83 = 72 := by kernel_rfl
@[simp] theorem ti83 : (Try.prog.info? 83).isSome = true := by kernel_rfl
@[simp] theorem tz83 : (Try.prog.info? 83).bind (·.zero) = some (.agg #[(.int .i64 0), (.int .i64 0), (.int .i64 0), (.int .i64 0), (.int .i64 0), (.int .i64 0), (.int .i64 0), (.int .i64 0), (.int .i64 0)]) := by kernel_rfl
attribute [simp] Try.underlying84
@[simp] theorem tc84 : Try.prog.cellsOf 84 = 9 := by kernel_rfl
@[simp] theorem tb84 : Try.prog.bytesOf 84 = 72 := by kernel_rfl
@[simp] theorem ti84 : (Try.prog.info? 84).isSome = true := by kernel_rfl
@[simp] theorem tz84 : (Try.prog.info? 84).bind (·.zero) = some (.agg #[(.int .i64 0), (.int .i64 0), (.int .i64 0), (.int .i64 0), (.int .i64 0), (.int .i64 0), (.int .i64 0), (.int .i64 0), (.int .i64 0)]) := by kernel_rfl
attribute [simp] Try.underlying85
@[simp] theorem tc85 : Try.prog.cellsOf 85 = 1 := by kernel_rfl
@[simp] theorem tb85 : Try.prog.bytesOf 85 = 24 := by kernel_rfl
@[simp] theorem ti85 : (Try.prog.info? 85).isSome = true := by kernel_rfl
@[simp] theorem tz85 : (Try.prog.info? 85).bind (·.zero) = some (.slice none 0 0) := by kernel_rfl
attribute [simp] Try.underlying89
@[simp] theorem tc89 : Try.prog.cellsOf 89 = 1 := by kernel_rfl
@[simp] theorem tb89 : Try.prog.bytesOf 89 = 8 := by kernel_rfl
@[simp] theorem ti89 : (Try.prog.info? 89).isSome = true := by kernel_rfl
@[simp] theorem tz89 : (Try.prog.info? 89).bind (·.zero) = some (.map none) := by kernel_rfl
attribute [simp] Try.underlying93
@[simp] theorem tc93 : Try.prog.cellsOf 93 = 2 := by kernel_rfl
@[simp] theorem tb93 : Try.prog.bytesOf 93 = 16 := by kernel_rfl
@[simp] theorem ti93 : (Try.prog.info? 93).isSome = true := by kernel_rfl
@[simp] theorem tz93 : (Try.prog.info? 93).bind (·.zero) = some (.agg #[(.int .i64 0), (.int .i64 0)]) := by kernel_rfl
attribute [simp] Try.underlying94
@[simp] theorem tc94 : Try.prog.cellsOf 94 = 2 := by kernel_rfl
@[simp] theorem tb94 : Try.prog.bytesOf 94 = 16 := by kernel_rfl
@[simp] theorem ti94 : (Try.prog.info? 94).isSome = true := by kernel_rfl
@[simp] theorem tz94 : (Try.prog.info? 94).bind (·.zero) = some (.agg #[(.int .i64 0), (.int .i64 0)]) := by kernel_rfl
attribute [simp] Try.underlying104
@[simp] theorem tc104 : Try.prog.cellsOf 104 = 1 := by kernel_rfl
@[simp] theorem tb104 : Try.prog.bytesOf 104 = 24 := by kernel_rfl
@[simp] theorem ti104 : (Try.prog.info? 104).isSome = true := by kernel_rfl
@[simp] theorem tz104 : (Try.prog.info? 104).bind (·.zero) = some (.slice none 0 0) := by kernel_rfl
attribute [simp] Try.underlying105
@[simp] theorem tc105 : Try.prog.cellsOf 105 = 2 := by kernel_rfl
@[simp] theorem tb105 : Try.prog.bytesOf 105 = 32 := by kernel_rfl
@[simp] theorem ti105 : (Try.prog.info? 105).isSome = true := by kernel_rfl
@[simp] theorem tz105 : (Try.prog.info? 105).bind (·.zero) = some (.agg #[(.bool false), (.slice none 0 0)]) := by kernel_rfl
attribute [simp] Try.underlying106
@[simp] theorem tc106 : Try.prog.cellsOf 106 = 2 := by kernel_rfl
@[simp] theorem tb106 : Try.prog.bytesOf 106 = 32 := by kernel_rfl
@[simp] theorem ti106 : (Try.prog.info? 106).isSome = true := by kernel_rfl
@[simp] theorem tz106 : (Try.prog.info? 106).bind (·.zero) = some (.agg #[(.bool false), (.slice none 0 0)]) := by kernel_rfl
attribute [simp] Try.underlying111
@[simp] theorem tc111 : Try.prog.cellsOf 111 = 1 := by kernel_rfl
@[simp] theorem tb111 : Try.prog.bytesOf 111 = 24 := by kernel_rfl
@[simp] theorem ti111 : (Try.prog.info? 111).isSome = true := by kernel_rfl
@[simp] theorem tz111 : (Try.prog.info? 111).bind (·.zero) = some (.slice none 0 0) := by kernel_rfl
attribute [simp] Try.underlying112
@[simp] theorem tc112 : Try.prog.cellsOf 112 = 3 := by kernel_rfl
@[simp] theorem tb112 : Try.prog.bytesOf 112 = 40 := by kernel_rfl
@[simp] theorem ti112 : (Try.prog.info? 112).isSome = true := by kernel_rfl
@[simp] theorem tz112 : (Try.prog.info? 112).bind (·.zero) = some (.agg #[(.int .i64 0), (.int .i64 0), (.slice none 0 0)]) := by kernel_rfl
attribute [simp] Try.underlying113
@[simp] theorem tc113 : Try.prog.cellsOf 113 = 3 := by kernel_rfl
@[simp] theorem tb113 : Try.prog.bytesOf 113 = 40 := by kernel_rfl
@[simp] theorem ti113 : (Try.prog.info? 113).isSome = true := by kernel_rfl
@[simp] theorem tz113 : (Try.prog.info? 113).bind (·.zero) = some (.agg #[(.int .i64 0), (.int .i64 0), (.slice none 0 0)]) := by kernel_rfl
attribute [simp] Try.underlying120
@[simp] theorem tc120 : Try.prog.cellsOf 120 = 1 := by kernel_rfl
@[simp] theorem tb120 : Try.prog.bytesOf 120 = 8 := by kernel_rfl
@[simp] theorem ti120 : (Try.prog.info? 120).isSome = true := by kernel_rfl
@[simp] theorem tz120 : (Try.prog.info? 120).bind (·.zero) = some (.pointer none) := by kernel_rfl
attribute [simp] Try.underlying121
@[simp] theorem tc121 : Try.prog.cellsOf 121 = 3 := by kernel_rfl
@[simp] theorem tb121 : Try.prog.bytesOf 121 = 24 := by kernel_rfl
@[simp] theorem ti121 : (Try.prog.info? 121).isSome = true := by kernel_rfl
@[simp] theorem tz121 : (Try.prog.info? 121).bind (·.zero) = some (.agg #[(.int .i64 0), (.int .i64 0), (.pointer none)]) := by kernel_rfl
attribute [simp] Try.underlying122
@[simp] theorem tc122 : Try.prog.cellsOf 122 = 3 := by kernel_rfl
@[simp] theorem tb122 : Try.prog.bytesOf 122 = 24 := by kernel_rfl
@[simp] theorem ti122 : (Try.prog.info? 122).isSome = true := by kernel_rfl
@[simp] theorem tz122 : (Try.prog.info? 122).bind (·.zero) = some (.agg #[(.int .i64 0), (.int .i64 0), (.pointer none)]) := by kernel_rfl
attribute [simp] Try.underlying126
@[simp] theorem tc126 : Try.prog.cellsOf 126 = 2 := by kernel_rfl
@[simp] theorem tb126 : Try.prog.bytesOf 126 = 32 := by kernel_rfl
@[simp] theorem ti126 : (Try.prog.info? 126).isSome = true := by kernel_rfl
@[simp] theorem tz126 : (Try.prog.info? 126).bind (·.zero) = some (.agg #[(.bool false), (.slice none 0 0)]) := by kernel_rfl
attribute [simp] Try.underlying127
@[simp] theorem tc127 : Try.prog.cellsOf 127 = 2 := by kernel_rfl
@[simp] theorem tb127 : Try.prog.bytesOf 127 = 32 := by kernel_rfl
@[simp] theorem ti127 : (Try.prog.info? 127).isSome = true := by kernel_rfl
@[simp] theorem tz127 : (Try.prog.info? 127).bind (·.zero) = some (.agg #[(.bool false), (.slice none 0 0)]) := by kernel_rfl
attribute [simp] Try.underlying128
@[simp] theorem tc128 : Try.prog.cellsOf 128 = 4 := by kernel_rfl
@[simp] theorem tb128 : Try.prog.bytesOf 128 = 64 := by kernel_rfl
@[simp] theorem ti128 : (Try.prog.info? 128).isSome = true := by kernel_rfl
@[simp] theorem tz128 : (Try.prog.info? 128).bind (·.zero) = some (.agg #[(.bool false), (.slice none 0 0), (.bool false), (.slice none 0 0)]) := by kernel_rfl
attribute [simp] Try.underlying129
@[simp] theorem tc129 : Try.prog.cellsOf 129 = 4 := by kernel_rfl
@[simp] theorem tb129 : Try.prog.bytesOf 129 = 64 := by kernel_rfl
@[simp] theorem ti129 : (Try.prog.info? 129).isSome = true := by kernel_rfl
@[simp] theorem tz129 : (Try.prog.info? 129).bind (·.zero) = some (.agg #[(.bool false), (.slice none 0 0), (.bool false), (.slice none 0 0)]) := by kernel_rfl
attribute [simp] Try.underlying136
@[simp] theorem tc136 : Try.prog.cellsOf 136 = 1 := by kernel_rfl
@[simp] theorem tb136 : Try.prog.bytesOf 136 = 8 := by kernel_rfl
@[simp] theorem ti136 : (Try.prog.info? 136).isSome = true := by kernel_rfl
@[simp] theorem tz136 : (Try.prog.info? 136).bind (·.zero) = some (.int .u64 0) := by kernel_rfl
attribute [simp] Try.underlying138
@[simp] theorem tc138 : Try.prog.cellsOf 138 = 2 := by kernel_rfl
@[simp] theorem tb138 : Try.prog.bytesOf 138 = 16 := by kernel_rfl
@[simp] theorem ti138 : (Try.prog.info? 138).isSome = true := by kernel_rfl
@[simp] theorem tz138 : (Try.prog.info? 138).bind (·.zero) = some (.agg #[(.int .i64 0), (.int .i64 0)]) := by kernel_rfl
attribute [simp] Try.underlying139
@[simp] theorem tc139 : Try.prog.cellsOf 139 = 6 := by kernel_rfl
@[simp] theorem tb139 : Try.prog.bytesOf 139 = 48 := by kernel_rfl
@[simp] theorem ti139 : (Try.prog.info? 139).isSome = true := by kernel_rfl
@[simp] theorem tz139 : (Try.prog.info? 139).bind (·.zero) = some (.agg #[(.int .i64 0), (.int .i64 0), (.int .i64 0), (.int .i64 0), (.int .i64 0), (.int .i64 0)]) := by kernel_rfl
attribute [simp] Try.underlying140
@[simp] theorem tc140 : Try.prog.cellsOf 140 = 6 := by kernel_rfl
@[simp] theorem tb140 : Try.prog.bytesOf 140 = 48 := by kernel_rfl
@[simp] theorem ti140 : (Try.prog.info? 140).isSome = true := by kernel_rfl
@[simp] theorem tz140 : (Try.prog.info? 140).bind (·.zero) = some (.agg #[(.int .i64 0), (.int .i64 0), (.int .i64 0), (.int .i64 0), (.int .i64 0), (.int .i64 0)]) := by kernel_rfl
attribute [simp] Try.underlying142
@[simp] theorem tc142 : Try.prog.cellsOf 142 = 3 := by kernel_rfl
@[simp] theorem tb142 : Try.prog.bytesOf 142 = 24 := by kernel_rfl
@[simp] theorem ti142 : (Try.prog.info? 142).isSome = true := by kernel_rfl
@[simp] theorem tz142 : (Try.prog.info? 142).bind (·.zero) = some (.agg #[(.int .i64 0), (.int .i64 0), (.int .i64 0)]) := by kernel_rfl
attribute [simp] Try.underlying143
@[simp] theorem tc143 : Try.prog.cellsOf 143 = 1 := by kernel_rfl
@[simp] theorem tb143 : Try.prog.bytesOf 143 = 24 := by kernel_rfl
@[simp] theorem ti143 : (Try.prog.info? 143).isSome = true := by kernel_rfl
@[simp] theorem tz143 : (Try.prog.info? 143).bind (·.zero) = some (.slice none 0 0) := by kernel_rfl
attribute [simp] Try.underlying151
@[simp] theorem tc151 : Try.prog.cellsOf 151 = 9 := by kernel_rfl
@[simp] theorem tb151 : Try.prog.bytesOf 151 = 72 := by kernel_rfl
@[simp] theorem ti151 : (Try.prog.info? 151).isSome = true := by kernel_rfl
@[simp] theorem tz151 : (Try.prog.info? 151).bind (·.zero) = some (.agg #[(.int .i64 0), (.int .i64 0), (.int .i64 0), (.int .i64 0), (.int .i64 0), (.int .i64 0), (.int .i64 0), (.int .i64 0), (.int .i64 0)]) := by kernel_rfl
attribute [simp] Try.underlying152
@[simp] theorem tc152 : Try.prog.cellsOf 152 = 9 := by kernel_rfl
@[simp] theorem tb152 : Try.prog.bytesOf 152 = 72 := by kernel_rfl
@[simp] theorem ti152 : (Try.prog.info? 152).isSome = true := by kernel_rfl
@[simp] theorem tz152 : (Try.prog.info? 152).bind (·.zero) = some (.agg #[(.int .i64 0), (.int .i64 0), (.int .i64 0), (.int .i64 0), (.int .i64 0), (.int .i64 0), (.int .i64 0), (.int .i64 0), (.int .i64 0)]) := by kernel_rfl
attribute [simp] Try.underlying154
@[simp] theorem tc154 : Try.prog.cellsOf 154 = 1 := by kernel_rfl
@[simp] theorem tb154 : Try.prog.bytesOf 154 = 8 := by kernel_rfl
@[simp] theorem ti154 : (Try.prog.info? 154).isSome = true := by kernel_rfl
@[simp] theorem tz154 : (Try.prog.info? 154).bind (·.zero) = some (.map none) := by kernel_rfl
attribute [simp] Try.underlying159
@[simp] theorem tc159 : Try.prog.cellsOf 159 = 0 := by kernel_rfl
@[simp] theorem tb159 : Try.prog.bytesOf 159 = 0 := by kernel_rfl
@[simp] theorem ti159 : (Try.prog.info? 159).isSome = true := by kernel_rfl
@[simp] theorem tz159 : (Try.prog.info? 159).bind (·.zero) = some (.agg #[]) := by kernel_rfl
attribute [simp] Try.underlying160
@[simp] theorem tc160 : Try.prog.cellsOf 160 = 1 := by kernel_rfl
@[simp] theorem tb160 : Try.prog.bytesOf 160 = 24 := by kernel_rfl
@[simp] theorem ti160 : (Try.prog.info? 160).isSome = true := by kernel_rfl
@[simp] theorem tz160 : (Try.prog.info? 160).bind (·.zero) = some (.slice none 0 0) := by kernel_rfl
attribute [simp] Try.underlying175
@[simp] theorem tc175 : Try.prog.cellsOf 175 = 256 := by kernel_rfl
@[simp] theorem tb175 : Try.prog.bytesOf 175 = 256 := by kernel_rfl
@[simp] theorem ti175 : (Try.prog.info? 175).isSome = true := by kernel_rfl
@[simp] theorem tz175 : (Try.prog.info? 175).bind (·.zero) = some (.agg #[(.bool false), (.bool false), (.bool false), (.bool false), (.bool false), (.bool false), (.bool false), (.bool false), (.bool false), (.bool false), (.bool false), (.bool false), (.bool false), (.bool false), (.bool false), (.bool false), (.bool false), (.bool false), (.bool false), (.bool false), (.bool false), (.bool false), (.bool false), (.bool false), (.bool false), (.bool false), (.bool false), (.bool false), (.bool false), (.bool false), (.bool false), (.bool false), (.bool false), (.bool false), (.bool false), (.bool false), (.bool false), (.bool false), (.bool false), (.bool false), (.bool false), (.bool false), (.bool false), (.bool false), (.bool false), (.bool false), (.bool false), (.bool false), (.bool false), (.bool false), (.bool false), (.bool false), (.bool false), (.bool false), (.bool false), (.bool false), (.bool false), (.bool false), (.bool false), (.bool false), (.bool false), (.bool false), (.bool false), (.bool false), (.bool false), (.bool false), (.bool false), (.bool false), (.bool false), (.bool false), (.bool false), (.bool false), (.bool false), (.bool false), (.bool false), (.bool false), (.bool false), (.bool false), (.bool false), (.bool false), (.bool false), (.bool false), (.bool false), (.bool false), (.bool false), (.bool false), (.bool false), (.bool false), (.bool false), (.bool false), (.bool false), (.bool false), (.bool false), (.bool false), (.bool false), (.bool false), (.bool false), (.bool false), (.bool false), (.bool false), (.bool false), (.bool false), (.bool false), (.bool false), (.bool false), (.bool false), (.bool false), (.bool false), (.bool false), (.bool false), (.bool false), (.bool false), (.bool false), (.bool false), (.bool false), (.bool false), (.bool false), (.bool false), (.bool false), (.bool false), (.bool false), (.bool false), (.bool false), (.bool false), (.bool false), (.bool false), (.bool false), (.bool false), (.bool false), (.bool false), (.bool false), (.bool false), (.bool false), (.bool false), (.bool false), (.bool false), (.bool false), (.bool false), (.bool false), (.bool false), (.bool false), (.bool false), (.bool false), (.bool false), (.bool false), (.bool false), (.bool false), (.bool false), (.bool false), (.bool false), (.bool false), (.bool false), (.bool false), (.bool false), (.bool false), (.bool false), (.bool false), (.bool false), (.bool false), (.bool false), (.bool false), (.bool false), (.bool false), (.bool false), (.bool false), (.bool false), (.bool false), (.bool false), (.bool false), (.bool false), (.bool false), (.bool false), (.bool false), (.bool false), (.bool false), (.bool false), (.bool false), (.bool false), (.bool false), (.bool false), (.bool false), (.bool false), (.bool false), (.bool false), (.bool false), (.bool false), (.bool false), (.bool false), (.bool false), (.bool false), (.bool false), (.bool false), (.bool false), (.bool false), (.bool false), (.bool false), (.bool false), (.bool false), (.bool false), (.bool false), (.bool false), (.bool false), (.bool false), (.bool false), (.bool false), (.bool false), (.bool false), (.bool false), (.bool false), (.bool false), (.bool false), (.bool false), (.bool false), (.bool false), (.bool false), (.bool false), (.bool false), (.bool false), (.bool false), (.bool false), (.bool false), (.bool false), (.bool false), (.bool false), (.bool false), (.bool false), (.bool false), (.bool false), (.bool false), (.bool false), (.bool false), (.bool false), (.bool false), (.bool false), (.bool false), (.bool false), (.bool false), (.bool false), (.bool false), (.bool false), (.bool false), (.bool false), (.bool false), (.bool false), (.bool false), (.bool false), (.bool false), (.bool false), (.bool false), (.bool false), (.bool false), (.bool false), (.bool false), (.bool false), (.bool false), (.bool false)]) := by kernel_rfl
attribute [simp] Try.underlying176
@[simp] theorem tc176 : Try.prog.cellsOf 176 = 256 := by kernel_rfl
@[simp] theorem tb176 : Try.prog.bytesOf 176 = 256 := by kernel_rfl
@[simp] theorem ti176 : (Try.prog.info? 176).isSome = true := by kernel_rfl
@[simp] theorem tz176 : (Try.prog.info? 176).bind (·.zero) = some (.agg #[(.bool false), (.bool false), (.bool false), (.bool false), (.bool false), (.bool false), (.bool false), (.bool false), (.bool false), (.bool false), (.bool false), (.bool false), (.bool false), (.bool false), (.bool false), (.bool false), (.bool false), (.bool false), (.bool false), (.bool false), (.bool false), (.bool false), (.bool false), (.bool false), (.bool false), (.bool false), (.bool false), (.bool false), (.bool false), (.bool false), (.bool false), (.bool false), (.bool false), (.bool false), (.bool false), (.bool false), (.bool false), (.bool false), (.bool false), (.bool false), (.bool false), (.bool false), (.bool false), (.bool false), (.bool false), (.bool false), (.bool false), (.bool false), (.bool false), (.bool false), (.bool false), (.bool false), (.bool false), (.bool false), (.bool false), (.bool false), (.bool false), (.bool false), (.bool false), (.bool false), (.bool false), (.bool false), (.bool false), (.bool false), (.bool false), (.bool false), (.bool false), (.bool false), (.bool false), (.bool false), (.bool false), (.bool false), (.bool false), (.bool false), (.bool false), (.bool false), (.bool false), (.bool false), (.bool false), (.bool false), (.bool false), (.bool false), (.bool false), (.bool false), (.bool false), (.bool false), (.bool false), (.bool false), (.bool false), (.bool false), (.bool false), (.bool false), (.bool false), (.bool false), (.bool false), (.bool false), (.bool false), (.bool false), (.bool false), (.bool false), (.bool false), (.bool false), (.bool false), (.bool false), (.bool false), (.bool false), (.bool false), (.bool false), (.bool false), (.bool false), (.bool false), (.bool false), (.bool false), (.bool false), (.bool false), (.bool false), (.bool false), (.bool false), (.bool false), (.bool false), (.bool false), (.bool false), (.bool false), (.bool false), (.bool false), (.bool false), (.bool false), (.bool false), (.bool false), (.bool false), (.bool false), (.bool false), (.bool false), (.bool false), (.bool false), (.bool false), (.bool false), (.bool false), (.bool false), (.bool false), (.bool false), (.bool false), (.bool false), (.bool false), (.bool false), (.bool false), (.bool false), (.bool false), (.bool false), (.bool false), (.bool false), (.bool false), (.bool false), (.bool false), (.bool false), (.bool false), (.bool false), (.bool false), (.bool false), (.bool false), (.bool false), (.bool false), (.bool false), (.bool false), (.bool false), (.bool false), (.bool false), (.bool false), (.bool false), (.bool false), (.bool false), (.bool false), (.bool false), (.bool false), (.bool false), (.bool false), (.bool false), (.bool false), (.bool false), (.bool false), (.bool false), (.bool false), (.bool false), (.bool false), (.bool false), (.bool false), (.bool false), (.bool false), (.bool false), (.bool false), (.bool false), (.bool false), (.bool false), (.bool false), (.bool false), (.bool false), (.bool false), (.bool false), (.bool false), (.bool false), (.bool false), (.bool false), (.bool false), (.bool false), (.bool false), (.bool false), (.bool false), (.bool false), (.bool false), (.bool false), (.bool false), (.bool false), (.bool false), (.bool false), (.bool false), (.bool false), (.bool false), (.bool false), (.bool false), (.bool false), (.bool false), (.bool false), (.bool false), (.bool false), (.bool false), (.bool false), (.bool false), (.bool false), (.bool false), (.bool false), (.bool false), (.bool false), (.bool false), (.bool false), (.bool false), (.bool false), (.bool false), (.bool false), (.bool false), (.bool false), (.bool false), (.bool false), (.bool false), (.bool false), (.bool false), (.bool false), (.bool false), (.bool false), (.bool false), (.bool false), (.bool false), (.bool false), (.bool false), (.bool false), (.bool false), (.bool false)]) := by kernel_rfl
attribute [simp] Try.underlying180
@[simp] theorem tc180 : Try.prog.cellsOf 180 = 1 := by kernel_rfl
@[simp] theorem tb180 : Try.prog.bytesOf 180 = 8 := by kernel_rfl
@[simp] theorem ti180 : (Try.prog.info? 180).isSome = true := by kernel_rfl
@[simp] theorem tz180 : (Try.prog.info? 180).bind (·.zero) = some (.pointer none) := by kernel_rfl
attribute [simp] Try.underlying190
@[simp] theorem tc190 : Try.prog.cellsOf 190 = 9 := by kernel_rfl
@[simp] theorem tb190 : Try.prog.bytesOf 190 = 72 := by kernel_rfl
@[simp] theorem ti190 : (Try.prog.info? 190).isSome = true := by kernel_rfl
@[simp] theorem tz190 : (Try.prog.info? 190).bind (·.zero) = some (.agg #[(.int .i64 0), (.int .i64 0), (.pointer none), (.int .i64 0), (.int .i64 0), (.pointer none), (.int .i64 0), (.int .i64 0), (.pointer none)]) := by kernel_rfl
attribute [simp] Try.underlying191
@[simp] theorem tc191 : Try.prog.cellsOf 191 = 9 := by kernel_rfl
@[simp] theorem tb191 : Try.prog.bytesOf 191 = 72 := by kernel_rfl
@[simp] theorem ti191 : (Try.prog.info? 191).isSome = true := by kernel_rfl
@[simp] theorem tz191 : (Try.prog.info? 191).bind (·.zero) = some (.agg #[(.int .i64 0), (.int .i64 0), (.pointer none), (.int .i64 0), (.int .i64 0), (.pointer none), (.int .i64 0), (.int .i64 0), (.pointer none)]) := by kernel_rfl
attribute [simp] Try.underlying195
@[simp] theorem tc195 : Try.prog.cellsOf 195 = 1 := by kernel_rfl
@[simp] theorem tb195 : Try.prog.bytesOf 195 = 4 := by kernel_rfl
@[simp] theorem ti195 : (Try.prog.info? 195).isSome = true := by kernel_rfl
@[simp] theorem tz195 : (Try.prog.info? 195).bind (·.zero) = some (.int .u32 0) := by kernel_rfl
attribute [simp] Try.underlying201
@[simp] theorem tc201 : Try.prog.cellsOf 201 = 1 := by kernel_rfl
@[simp] theorem tb201 : Try.prog.bytesOf 201 = 8 := by kernel_rfl
@[simp] theorem ti201 : (Try.prog.info? 201).isSome = true := by kernel_rfl
@[simp] theorem tz201 : (Try.prog.info? 201).bind (·.zero) = some (.pointer none) := by kernel_rfl
attribute [simp] Try.underlying228
@[simp] theorem tc228 : Try.prog.cellsOf 228 = 1 := by kernel_rfl
@[simp] theorem tb228 : Try.prog.bytesOf 228 = 8 := by kernel_rfl
@[simp] theorem ti228 : (Try.prog.info? 228).isSome = true := by kernel_rfl
@[simp] theorem tz228 : (Try.prog.info? 228).bind (·.zero) = some (.pointer none) := by kernel_rfl
attribute [simp] Try.underlying235
@[simp] theorem tc235 : Try.prog.cellsOf 235 = 1 := by kernel_rfl
@[simp] theorem tb235 : Try.prog.bytesOf 235 = 24 := by kernel_rfl
@[simp] theorem ti235 : (Try.prog.info? 235).isSome = true := by kernel_rfl
@[simp] theorem tz235 : (Try.prog.info? 235).bind (·.zero) = some (.slice none 0 0) := by kernel_rfl
attribute [simp] Try.underlying236
@[simp] theorem tc236 : Try.prog.cellsOf 236 = 1 := by kernel_rfl
@[simp] theorem tb236 : Try.prog.bytesOf 236 = 24 := by kernel_rfl
@[simp] theorem ti236 : (Try.prog.info? 236).isSome = true := by kernel_rfl
@[simp] theorem tz236 : (Try.prog.info? 236).bind (·.zero) = some (.slice none 0 0) := by kernel_rfl
attribute [simp] Try.underlying237
@[simp] theorem tc237 : Try.prog.cellsOf 237 = 4 := by kernel_rfl
@[simp] theorem tb237 : Try.prog.bytesOf 237 = 48 := by kernel_rfl
@[simp] theorem ti237 : (Try.prog.info? 237).isSome = true := by kernel_rfl
@[simp] theorem tz237 : (Try.prog.info? 237).bind (·.zero) = some (.agg #[(.slice none 0 0), (.int .i64 0), (.int .i64 0), (.pointer none)]) := by kernel_rfl
attribute [simp] Try.underlying238
@[simp] theorem tc238 : Try.prog.cellsOf 238 = 4 := by kernel_rfl
@[simp] theorem tb238 : Try.prog.bytesOf 238 = 48 := by kernel_rfl
@[simp] theorem ti238 : (Try.prog.info? 238).isSome = true := by kernel_rfl
@[simp] theorem tz238 : (Try.prog.info? 238).bind (·.zero) = some (.agg #[(.slice none 0 0), (.int .i64 0), (.int .i64 0), (.pointer none)]) := by kernel_rfl
theorem mo : Try.prog.follows .mixedOrders = true := by kernel_rfl
end Go.Proofs.Ytpggfnggffedlaa.Ae

namespace Go.Proofs.Ytpggfnggffedlaa.Ae
open Go Go.RowKit
def gX (l : List X) (i : Nat) : X := l.getD i .any
def sX (l : List X) (i : Nat) (x : X) : List X := l.set i x
def gO (l : List (Option Ob)) (i : Nat) : Option Ob := l.getD i none
def sO (l : List (Option Ob)) (i : Nat) (x : Option Ob) : List (Option Ob) := l.set i x
def nX (n : Nat) : List X := List.replicate n .und
def nO (n : Nat) : List (Option Ob) := List.replicate n none
section
variable {r : List X} {q : List (Option Ob)} {z : X} {y : Option Ob}
@[simp] theorem gX0 {x0 : X} : gX (x0 :: r) 0 = x0 := rfl
@[simp] theorem sX0 {x0 : X} : sX (x0 :: r) 0 z = z :: r := rfl
@[simp] theorem gO0 {x0 : Option Ob} : gO (x0 :: q) 0 = x0 := rfl
@[simp] theorem sO0 {x0 : Option Ob} : sO (x0 :: q) 0 y = y :: q := rfl
@[simp] theorem nX0 : nX 0 = [] := rfl
@[simp] theorem nO0 : nO 0 = [] := rfl
@[simp] theorem gX1 {x0 x1 : X} : gX (x0 :: x1 :: r) 1 = x1 := rfl
@[simp] theorem sX1 {x0 x1 : X} : sX (x0 :: x1 :: r) 1 z = x0 :: z :: r := rfl
@[simp] theorem gO1 {x0 x1 : Option Ob} : gO (x0 :: x1 :: q) 1 = x1 := rfl
@[simp] theorem sO1 {x0 x1 : Option Ob} : sO (x0 :: x1 :: q) 1 y = x0 :: y :: q := rfl
@[simp] theorem nX1 : nX 1 = [.und] := rfl
@[simp] theorem nO1 : nO 1 = [none] := rfl
@[simp] theorem gX2 {x0 x1 x2 : X} : gX (x0 :: x1 :: x2 :: r) 2 = x2 := rfl
@[simp] theorem sX2 {x0 x1 x2 : X} : sX (x0 :: x1 :: x2 :: r) 2 z = x0 :: x1 :: z :: r := rfl
@[simp] theorem gO2 {x0 x1 x2 : Option Ob} : gO (x0 :: x1 :: x2 :: q) 2 = x2 := rfl
@[simp] theorem sO2 {x0 x1 x2 : Option Ob} : sO (x0 :: x1 :: x2 :: q) 2 y = x0 :: x1 :: y :: q := rfl
@[simp] theorem nX2 : nX 2 = [.und, .und] := rfl
@[simp] theorem nO2 : nO 2 = [none, none] := rfl
@[simp] theorem gX3 {x0 x1 x2 x3 : X} : gX (x0 :: x1 :: x2 :: x3 :: r) 3 = x3 := rfl
@[simp] theorem sX3 {x0 x1 x2 x3 : X} : sX (x0 :: x1 :: x2 :: x3 :: r) 3 z = x0 :: x1 :: x2 :: z :: r := rfl
@[simp] theorem gO3 {x0 x1 x2 x3 : Option Ob} : gO (x0 :: x1 :: x2 :: x3 :: q) 3 = x3 := rfl
@[simp] theorem sO3 {x0 x1 x2 x3 : Option Ob} : sO (x0 :: x1 :: x2 :: x3 :: q) 3 y = x0 :: x1 :: x2 :: y :: q := rfl
@[simp] theorem nX3 : nX 3 = [.und, .und, .und] := rfl
@[simp] theorem nO3 : nO 3 = [none, none, none] := rfl
@[simp] theorem gX4 {x0 x1 x2 x3 x4 : X} : gX (x0 :: x1 :: x2 :: x3 :: x4 :: r) 4 = x4 := rfl
@[simp] theorem sX4 {x0 x1 x2 x3 x4 : X} : sX (x0 :: x1 :: x2 :: x3 :: x4 :: r) 4 z = x0 :: x1 :: x2 :: x3 :: z :: r := rfl
@[simp] theorem gO4 {x0 x1 x2 x3 x4 : Option Ob} : gO (x0 :: x1 :: x2 :: x3 :: x4 :: q) 4 = x4 := rfl
@[simp] theorem sO4 {x0 x1 x2 x3 x4 : Option Ob} : sO (x0 :: x1 :: x2 :: x3 :: x4 :: q) 4 y = x0 :: x1 :: x2 :: x3 :: y :: q := rfl
@[simp] theorem nX4 : nX 4 = [.und, .und, .und, .und] := rfl
@[simp] theorem nO4 : nO 4 = [none, none, none, none] := rfl
@[simp] theorem gX5 {x0 x1 x2 x3 x4 x5 : X} : gX (x0 :: x1 :: x2 :: x3 :: x4 :: x5 :: r) 5 = x5 := rfl
@[simp] theorem sX5 {x0 x1 x2 x3 x4 x5 : X} : sX (x0 :: x1 :: x2 :: x3 :: x4 :: x5 :: r) 5 z = x0 :: x1 :: x2 :: x3 :: x4 :: z :: r := rfl
@[simp] theorem gO5 {x0 x1 x2 x3 x4 x5 : Option Ob} : gO (x0 :: x1 :: x2 :: x3 :: x4 :: x5 :: q) 5 = x5 := rfl
@[simp] theorem sO5 {x0 x1 x2 x3 x4 x5 : Option Ob} : sO (x0 :: x1 :: x2 :: x3 :: x4 :: x5 :: q) 5 y = x0 :: x1 :: x2 :: x3 :: x4 :: y :: q := rfl
@[simp] theorem nX5 : nX 5 = [.und, .und, .und, .und, .und] := rfl
@[simp] theorem nO5 : nO 5 = [none, none, none, none, none] := rfl
@[simp] theorem gX6 {x0 x1 x2 x3 x4 x5 x6 : X} : gX (x0 :: x1 :: x2 :: x3 :: x4 :: x5 :: x6 :: r) 6 = x6 := rfl
@[simp] theorem sX6 {x0 x1 x2 x3 x4 x5 x6 : X} : sX (x0 :: x1 :: x2 :: x3 :: x4 :: x5 :: x6 :: r) 6 z = x0 :: x1 :: x2 :: x3 :: x4 :: x5 :: z :: r := rfl
@[simp] theorem gO6 {x0 x1 x2 x3 x4 x5 x6 : Option Ob} : gO (x0 :: x1 :: x2 :: x3 :: x4 :: x5 :: x6 :: q) 6 = x6 := rfl
@[simp] theorem sO6 {x0 x1 x2 x3 x4 x5 x6 : Option Ob} : sO (x0 :: x1 :: x2 :: x3 :: x4 :: x5 :: x6 :: q) 6 y = x0 :: x1 :: x2 :: x3 :: x4 :: x5 :: y :: q := rfl
@[simp] theorem nX6 : nX 6 = [.und, .und, .und, .und, .und, .und] := rfl
@[simp] theorem nO6 : nO 6 = [none, none, none, none, none, none] := rfl
@[simp] theorem gX7 {x0 x1 x2 x3 x4 x5 x6 x7 : X} : gX (x0 :: x1 :: x2 :: x3 :: x4 :: x5 :: x6 :: x7 :: r) 7 = x7 := rfl
@[simp] theorem sX7 {x0 x1 x2 x3 x4 x5 x6 x7 : X} : sX (x0 :: x1 :: x2 :: x3 :: x4 :: x5 :: x6 :: x7 :: r) 7 z = x0 :: x1 :: x2 :: x3 :: x4 :: x5 :: x6 :: z :: r := rfl
@[simp] theorem gO7 {x0 x1 x2 x3 x4 x5 x6 x7 : Option Ob} : gO (x0 :: x1 :: x2 :: x3 :: x4 :: x5 :: x6 :: x7 :: q) 7 = x7 := rfl
@[simp] theorem sO7 {x0 x1 x2 x3 x4 x5 x6 x7 : Option Ob} : sO (x0 :: x1 :: x2 :: x3 :: x4 :: x5 :: x6 :: x7 :: q) 7 y = x0 :: x1 :: x2 :: x3 :: x4 :: x5 :: x6 :: y :: q := rfl
@[simp] theorem nX7 : nX 7 = [.und, .und, .und, .und, .und, .und, .und] := rfl
@[simp] theorem nO7 : nO 7 = [none, none, none, none, none, none, none] := rfl
@[simp] theorem gX8 {x0 x1 x2 x3 x4 x5 x6 x7 x8 : X} : gX (x0 :: x1 :: x2 :: x3 :: x4 :: x5 :: x6 :: x7 :: x8 :: r) 8 = x8 := rfl
@[simp] theorem sX8 {x0 x1 x2 x3 x4 x5 x6 x7 x8 : X} : sX (x0 :: x1 :: x2 :: x3 :: x4 :: x5 :: x6 :: x7 :: x8 :: r) 8 z = x0 :: x1 :: x2 :: x3 :: x4 :: x5 :: x6 :: x7 :: z :: r := rfl
@[simp] theorem gO8 {x0 x1 x2 x3 x4 x5 x6 x7 x8 : Option Ob} : gO (x0 :: x1 :: x2 :: x3 :: x4 :: x5 :: x6 :: x7 :: x8 :: q) 8 = x8 := rfl
@[simp] theorem sO8 {x0 x1 x2 x3 x4 x5 x6 x7 x8 : Option Ob} : sO (x0 :: x1 :: x2 :: x3 :: x4 :: x5 :: x6 :: x7 :: x8 :: q) 8 y = x0 :: x1 :: x2 :: x3 :: x4 :: x5 :: x6 :: x7 :: y :: q := rfl
@[simp] theorem nX8 : nX 8 = [.und, .und, .und, .und, .und, .und, .und, .und] := rfl
@[simp] theorem nO8 : nO 8 = [none, none, none, none, none, none, none, none] := rfl
@[simp] theorem gX9 {x0 x1 x2 x3 x4 x5 x6 x7 x8 x9 : X} : gX (x0 :: x1 :: x2 :: x3 :: x4 :: x5 :: x6 :: x7 :: x8 :: x9 :: r) 9 = x9 := rfl
@[simp] theorem sX9 {x0 x1 x2 x3 x4 x5 x6 x7 x8 x9 : X} : sX (x0 :: x1 :: x2 :: x3 :: x4 :: x5 :: x6 :: x7 :: x8 :: x9 :: r) 9 z = x0 :: x1 :: x2 :: x3 :: x4 :: x5 :: x6 :: x7 :: x8 :: z :: r := rfl
@[simp] theorem gO9 {x0 x1 x2 x3 x4 x5 x6 x7 x8 x9 : Option Ob} : gO (x0 :: x1 :: x2 :: x3 :: x4 :: x5 :: x6 :: x7 :: x8 :: x9 :: q) 9 = x9 := rfl
@[simp] theorem sO9 {x0 x1 x2 x3 x4 x5 x6 x7 x8 x9 : Option Ob} : sO (x0 :: x1 :: x2 :: x3 :: x4 :: x5 :: x6 :: x7 :: x8 :: x9 :: q) 9 y = x0 :: x1 :: x2 :: x3 :: x4 :: x5 :: x6 :: x7 :: x8 :: y :: q := rfl
@[simp] theorem nX9 : nX 9 = [.und, .und, .und, .und, .und, .und, .und, .und, .und] := rfl
@[simp] theorem nO9 : nO 9 = [none, none, none, none, none, none, none, none, none] := rfl
@[simp] theorem gX10 {x0 x1 x2 x3 x4 x5 x6 x7 x8 x9 x10 : X} : gX (x0 :: x1 :: x2 :: x3 :: x4 :: x5 :: x6 :: x7 :: x8 :: x9 :: x10 :: r) 10 = x10 := rfl
@[simp] theorem sX10 {x0 x1 x2 x3 x4 x5 x6 x7 x8 x9 x10 : X} : sX (x0 :: x1 :: x2 :: x3 :: x4 :: x5 :: x6 :: x7 :: x8 :: x9 :: x10 :: r) 10 z = x0 :: x1 :: x2 :: x3 :: x4 :: x5 :: x6 :: x7 :: x8 :: x9 :: z :: r := rfl
@[simp] theorem gO10 {x0 x1 x2 x3 x4 x5 x6 x7 x8 x9 x10 : Option Ob} : gO (x0 :: x1 :: x2 :: x3 :: x4 :: x5 :: x6 :: x7 :: x8 :: x9 :: x10 :: q) 10 = x10 := rfl
@[simp] theorem sO10 {x0 x1 x2 x3 x4 x5 x6 x7 x8 x9 x10 : Option Ob} : sO (x0 :: x1 :: x2 :: x3 :: x4 :: x5 :: x6 :: x7 :: x8 :: x9 :: x10 :: q) 10 y = x0 :: x1 :: x2 :: x3 :: x4 :: x5 :: x6 :: x7 :: x8 :: x9 :: y :: q := rfl
@[simp] theorem nX10 : nX 10 = [.und, .und, .und, .und, .und, .und, .und, .und, .und, .und] := rfl
@[simp] theorem nO10 : nO 10 = [none, none, none, none, none, none, none, none, none, none] := rfl
@[simp] theorem gX11 {x0 x1 x2 x3 x4 x5 x6 x7 x8 x9 x10 x11 : X} : gX (x0 :: x1 :: x2 :: x3 :: x4 :: x5 :: x6 :: x7 :: x8 :: x9 :: x10 :: x11 :: r) 11 = x11 := rfl
@[simp] theorem sX11 {x0 x1 x2 x3 x4 x5 x6 x7 x8 x9 x10 x11 : X} : sX (x0 :: x1 :: x2 :: x3 :: x4 :: x5 :: x6 :: x7 :: x8 :: x9 :: x10 :: x11 :: r) 11 z = x0 :: x1 :: x2 :: x3 :: x4 :: x5 :: x6 :: x7 :: x8 :: x9 :: x10 :: z :: r := rfl
@[simp] theorem gO11 {x0 x1 x2 x3 x4 x5 x6 x7 x8 x9 x10 x11 : Option Ob} : gO (x0 :: x1 :: x2 :: x3 :: x4 :: x5 :: x6 :: x7 :: x8 :: x9 :: x10 :: x11 :: q) 11 = x11 := rfl
@[simp] theorem sO11 {x0 x1 x2 x3 x4 x5 x6 x7 x8 x9 x10 x11 : Option Ob} : sO (x0 :: x1 :: x2 :: x3 :: x4 :: x5 :: x6 :: x7 :: x8 :: x9 :: x10 :: x11 :: q) 11 y = x0 :: x1 :: x2 :: x3 :: x4 :: x5 :: x6 :: x7 :: x8 :: x9 :: x10 :: y :: q := rfl
@[simp] theorem nX11 : nX 11 = [.und, .und, .und, .und, .und, .und, .und, .und, .und, .und, .und] := rfl
@[simp] theorem nO11 : nO 11 = [none, none, none, none, none, none, none, none, none, none, none] := rfl
@[simp] theorem gX12 {x0 x1 x2 x3 x4 x5 x6 x7 x8 x9 x10 x11 x12 : X} : gX (x0 :: x1 :: x2 :: x3 :: x4 :: x5 :: x6 :: x7 :: x8 :: x9 :: x10 :: x11 :: x12 :: r) 12 = x12 := rfl
@[simp] theorem sX12 {x0 x1 x2 x3 x4 x5 x6 x7 x8 x9 x10 x11 x12 : X} : sX (x0 :: x1 :: x2 :: x3 :: x4 :: x5 :: x6 :: x7 :: x8 :: x9 :: x10 :: x11 :: x12 :: r) 12 z = x0 :: x1 :: x2 :: x3 :: x4 :: x5 :: x6 :: x7 :: x8 :: x9 :: x10 :: x11 :: z :: r := rfl
@[simp] theorem gO12 {x0 x1 x2 x3 x4 x5 x6 x7 x8 x9 x10 x11 x12 : Option Ob} : gO (x0 :: x1 :: x2 :: x3 :: x4 :: x5 :: x6 :: x7 :: x8 :: x9 :: x10 :: x11 :: x12 :: q) 12 = x12 := rfl
@[simp] theorem sO12 {x0 x1 x2 x3 x4 x5 x6 x7 x8 x9 x10 x11 x12 : Option Ob} : sO (x0 :: x1 :: x2 :: x3 :: x4 :: x5 :: x6 :: x7 :: x8 :: x9 :: x10 :: x11 :: x12 :: q) 12 y = x0 :: x1 :: x2 :: x3 :: x4 :: x5 :: x6 :: x7 :: x8 :: x9 :: x10 :: x11 :: y :: q := rfl
@[simp] theorem nX12 : nX 12 = [.und, .und, .und, .und, .und, .und, .und, .und, .und, .und, .und, .und] := rfl
@[simp] theorem nO12 : nO 12 = [none, none, none, none, none, none, none, none, none, none, none, none] := rfl
@[simp] theorem gX13 {x0 x1 x2 x3 x4 x5 x6 x7 x8 x9 x10 x11 x12 x13 : X} : gX (x0 :: x1 :: x2 :: x3 :: x4 :: x5 :: x6 :: x7 :: x8 :: x9 :: x10 :: x11 :: x12 :: x13 :: r) 13 = x13 := rfl
@[simp] theorem sX13 {x0 x1 x2 x3 x4 x5 x6 x7 x8 x9 x10 x11 x12 x13 : X} : sX (x0 :: x1 :: x2 :: x3 :: x4 :: x5 :: x6 :: x7 :: x8 :: x9 :: x10 :: x11 :: x12 :: x13 :: r) 13 z = x0 :: x1 :: x2 :: x3 :: x4 :: x5 :: x6 :: x7 :: x8 :: x9 :: x10 :: x11 :: x12 :: z :: r := rfl
@[simp] theorem gO13 {x0 x1 x2 x3 x4 x5 x6 x7 x8 x9 x10 x11 x12 x13 : Option Ob} : gO (x0 :: x1 :: x2 :: x3 :: x4 :: x5 :: x6 :: x7 :: x8 :: x9 :: x10 :: x11 :: x12 :: x13 :: q) 13 = x13 := rfl
@[simp] theorem sO13 {x0 x1 x2 x3 x4 x5 x6 x7 x8 x9 x10 x11 x12 x13 : Option Ob} : sO (x0 :: x1 :: x2 :: x3 :: x4 :: x5 :: x6 :: x7 :: x8 :: x9 :: x10 :: x11 :: x12 :: x13 :: q) 13 y = x0 :: x1 :: x2 :: x3 :: x4 :: x5 :: x6 :: x7 :: x8 :: x9 :: x10 :: x11 :: x12 :: y :: q := rfl
@[simp] theorem nX13 : nX 13 = [.und, .und, .und, .und, .und, .und, .und, .und, .und, .und, .und, .und, .und] := rfl
@[simp] theorem nO13 : nO 13 = [none, none, none, none, none, none, none, none, none, none, none, none, none] := rfl
@[simp] theorem gX14 {x0 x1 x2 x3 x4 x5 x6 x7 x8 x9 x10 x11 x12 x13 x14 : X} : gX (x0 :: x1 :: x2 :: x3 :: x4 :: x5 :: x6 :: x7 :: x8 :: x9 :: x10 :: x11 :: x12 :: x13 :: x14 :: r) 14 = x14 := rfl
@[simp] theorem sX14 {x0 x1 x2 x3 x4 x5 x6 x7 x8 x9 x10 x11 x12 x13 x14 : X} : sX (x0 :: x1 :: x2 :: x3 :: x4 :: x5 :: x6 :: x7 :: x8 :: x9 :: x10 :: x11 :: x12 :: x13 :: x14 :: r) 14 z = x0 :: x1 :: x2 :: x3 :: x4 :: x5 :: x6 :: x7 :: x8 :: x9 :: x10 :: x11 :: x12 :: x13 :: z :: r := rfl
@[simp] theorem gO14 {x0 x1 x2 x3 x4 x5 x6 x7 x8 x9 x10 x11 x12 x13 x14 : Option Ob} : gO (x0 :: x1 :: x2 :: x3 :: x4 :: x5 :: x6 :: x7 :: x8 :: x9 :: x10 :: x11 :: x12 :: x13 :: x14 :: q) 14 = x14 := rfl
@[simp] theorem sO14 {x0 x1 x2 x3 x4 x5 x6 x7 x8 x9 x10 x11 x12 x13 x14 : Option Ob} : sO (x0 :: x1 :: x2 :: x3 :: x4 :: x5 :: x6 :: x7 :: x8 :: x9 :: x10 :: x11 :: x12 :: x13 :: x14 :: q) 14 y = x0 :: x1 :: x2 :: x3 :: x4 :: x5 :: x6 :: x7 :: x8 :: x9 :: x10 :: x11 :: x12 :: x13 :: y :: q := rfl
@[simp] theorem nX14 : nX 14 = [.und, .und, .und, .und, .und, .und, .und, .und, .und, .und, .und, .und, .und, .und] := rfl
@[simp] theorem nO14 : nO 14 = [none, none, none, none, none, none, none, none, none, none, none, none, none, none] := rfl
@[simp] theorem gX15 {x0 x1 x2 x3 x4 x5 x6 x7 x8 x9 x10 x11 x12 x13 x14 x15 : X} : gX (x0 :: x1 :: x2 :: x3 :: x4 :: x5 :: x6 :: x7 :: x8 :: x9 :: x10 :: x11 :: x12 :: x13 :: x14 :: x15 :: r) 15 = x15 := rfl
@[simp] theorem sX15 {x0 x1 x2 x3 x4 x5 x6 x7 x8 x9 x10 x11 x12 x13 x14 x15 : X} : sX (x0 :: x1 :: x2 :: x3 :: x4 :: x5 :: x6 :: x7 :: x8 :: x9 :: x10 :: x11 :: x12 :: x13 :: x14 :: x15 :: r) 15 z = x0 :: x1 :: x2 :: x3 :: x4 :: x5 :: x6 :: x7 :: x8 :: x9 :: x10 :: x11 :: x12 :: x13 :: x14 :: z :: r := rfl
@[simp] theorem gO15 {x0 x1 x2 x3 x4 x5 x6 x7 x8 x9 x10 x11 x12 x13 x14 x15 : Option Ob} : gO (x0 :: x1 :: x2 :: x3 :: x4 :: x5 :: x6 :: x7 :: x8 :: x9 :: x10 :: x11 :: x12 :: x13 :: x14 :: x15 :: q) 15 = x15 := rfl
@[simp] theorem sO15 {x0 x1 x2 x3 x4 x5 x6 x7 x8 x9 x10 x11 x12 x13 x14 x15 : Option Ob} : sO (x0 :: x1 :: x2 :: x3 :: x4 :: x5 :: x6 :: x7 :: x8 :: x9 :: x10 :: x11 :: x12 :: x13 :: x14 :: x15 :: q) 15 y = x0 :: x1 :: x2 :: x3 :: x4 :: x5 :: x6 :: x7 :: x8 :: x9 :: x10 :: x11 :: x12 :: x13 :: x14 :: y :: q := rfl
@[simp] theorem nX15 : nX 15 = [.und, .und, .und, .und, .und, .und, .und, .und, .und, .und, .und, .und, .und, .und, .und] := rfl
@[simp] theorem nO15 : nO 15 = [none, none, none, none, none, none, none, none, none, none, none, none, none, none, none] := rfl
@[simp] theorem gX16 {x0 x1 x2 x3 x4 x5 x6 x7 x8 x9 x10 x11 x12 x13 x14 x15 x16 : X} : gX (x0 :: x1 :: x2 :: x3 :: x4 :: x5 :: x6 :: x7 :: x8 :: x9 :: x10 :: x11 :: x12 :: x13 :: x14 :: x15 :: x16 :: r) 16 = x16 := rfl
@[simp] theorem sX16 {x0 x1 x2 x3 x4 x5 x6 x7 x8 x9 x10 x11 x12 x13 x14 x15 x16 : X} : sX (x0 :: x1 :: x2 :: x3 :: x4 :: x5 :: x6 :: x7 :: x8 :: x9 :: x10 :: x11 :: x12 :: x13 :: x14 :: x15 :: x16 :: r) 16 z = x0 :: x1 :: x2 :: x3 :: x4 :: x5 :: x6 :: x7 :: x8 :: x9 :: x10 :: x11 :: x12 :: x13 :: x14 :: x15 :: z :: r := rfl
@[simp] theorem gO16 {x0 x1 x2 x3 x4 x5 x6 x7 x8 x9 x10 x11 x12 x13 x14 x15 x16 : Option Ob} : gO (x0 :: x1 :: x2 :: x3 :: x4 :: x5 :: x6 :: x7 :: x8 :: x9 :: x10 :: x11 :: x12 :: x13 :: x14 :: x15 :: x16 :: q) 16 = x16 := rfl
@[simp] theorem sO16 {x0 x1 x2 x3 x4 x5 x6 x7 x8 x9 x10 x11 x12 x13 x14 x15 x16 : Option Ob} : sO (x0 :: x1 :: x2 :: x3 :: x4 :: x5 :: x6 :: x7 :: x8 :: x9 :: x10 :: x11 :: x12 :: x13 :: x14 :: x15 :: x16 :: q) 16 y = x0 :: x1 :: x2 :: x3 :: x4 :: x5 :: x6 :: x7 :: x8 :: x9 :: x10 :: x11 :: x12 :: x13 :: x14 :: x15 :: y :: q := rfl
@[simp] theorem nX16 : nX 16 = [.und, .und, .und, .und, .und, .und, .und, .und, .und, .und, .und, .und, .und, .und, .und, .und] := rfl
@[simp] theorem nO16 : nO 16 = [none, none, none, none, none, none, none, none, none, none, none, none, none, none, none, none] := rfl
@[simp] theorem gX17 {x0 x1 x2 x3 x4 x5 x6 x7 x8 x9 x10 x11 x12 x13 x14 x15 x16 x17 : X} : gX (x0 :: x1 :: x2 :: x3 :: x4 :: x5 :: x6 :: x7 :: x8 :: x9 :: x10 :: x11 :: x12 :: x13 :: x14 :: x15 :: x16 :: x17 :: r) 17 = x17 := rfl
@[simp] theorem sX17 {x0 x1 x2 x3 x4 x5 x6 x7 x8 x9 x10 x11 x12 x13 x14 x15 x16 x17 : X} : sX (x0 :: x1 :: x2 :: x3 :: x4 :: x5 :: x6 :: x7 :: x8 :: x9 :: x10 :: x11 :: x12 :: x13 :: x14 :: x15 :: x16 :: x17 :: r) 17 z = x0 :: x1 :: x2 :: x3 :: x4 :: x5 :: x6 :: x7 :: x8 :: x9 :: x10 :: x11 :: x12 :: x13 :: x14 :: x15 :: x16 :: z :: r := rfl
@[simp] theorem gO17 {x0 x1 x2 x3 x4 x5 x6 x7 x8 x9 x10 x11 x12 x13 x14 x15 x16 x17 : Option Ob} : gO (x0 :: x1 :: x2 :: x3 :: x4 :: x5 :: x6 :: x7 :: x8 :: x9 :: x10 :: x11 :: x12 :: x13 :: x14 :: x15 :: x16 :: x17 :: q) 17 = x17 := rfl
@[simp] theorem sO17 {x0 x1 x2 x3 x4 x5 x6 x7 x8 x9 x10 x11 x12 x13 x14 x15 x16 x17 : Option Ob} : sO (x0 :: x1 :: x2 :: x3 :: x4 :: x5 :: x6 :: x7 :: x8 :: x9 :: x10 :: x11 :: x12 :: x13 :: x14 :: x15 :: x16 :: x17 :: q) 17 y = x0 :: x1 :: x2 :: x3 :: x4 :: x5 :: x6 :: x7 :: x8 :: x9 :: x10 :: x11 :: x12 :: x13 :: x14 :: x15 :: x16 :: y :: q := rfl
@[simp] theorem nX17 : nX 17 = [.und, .und, .und, .und, .und, .und, .und, .und, .und, .und, .und, .und, .und, .und, .und, .und, .und] := rfl
@[simp] theorem nO17 : nO 17 = [none, none, none, none, none, none, none, none, none, none, none, none, none, none, none, none, none] := rfl
@[simp] theorem gX18 {x0 x1 x2 x3 x4 x5 x6 x7 x8 x9 x10 x11 x12 x13 x14 x15 x16 x17 x18 : X} : gX (x0 :: x1 :: x2 :: x3 :: x4 :: x5 :: x6 :: x7 :: x8 :: x9 :: x10 :: x11 :: x12 :: x13 :: x14 :: x15 :: x16 :: x17 :: x18 :: r) 18 = x18 := rfl
@[simp] theorem sX18 {x0 x1 x2 x3 x4 x5 x6 x7 x8 x9 x10 x11 x12 x13 x14 x15 x16 x17 x18 : X} : sX (x0 :: x1 :: x2 :: x3 :: x4 :: x5 :: x6 :: x7 :: x8 :: x9 :: x10 :: x11 :: x12 :: x13 :: x14 :: x15 :: x16 :: x17 :: x18 :: r) 18 z = x0 :: x1 :: x2 :: x3 :: x4 :: x5 :: x6 :: x7 :: x8 :: x9 :: x10 :: x11 :: x12 :: x13 :: x14 :: x15 :: x16 :: x17 :: z :: r := rfl
@[simp] theorem gO18 {x0 x1 x2 x3 x4 x5 x6 x7 x8 x9 x10 x11 x12 x13 x14 x15 x16 x17 x18 : Option Ob} : gO (x0 :: x1 :: x2 :: x3 :: x4 :: x5 :: x6 :: x7 :: x8 :: x9 :: x10 :: x11 :: x12 :: x13 :: x14 :: x15 :: x16 :: x17 :: x18 :: q) 18 = x18 := rfl
@[simp] theorem sO18 {x0 x1 x2 x3 x4 x5 x6 x7 x8 x9 x10 x11 x12 x13 x14 x15 x16 x17 x18 : Option Ob} : sO (x0 :: x1 :: x2 :: x3 :: x4 :: x5 :: x6 :: x7 :: x8 :: x9 :: x10 :: x11 :: x12 :: x13 :: x14 :: x15 :: x16 :: x17 :: x18 :: q) 18 y = x0 :: x1 :: x2 :: x3 :: x4 :: x5 :: x6 :: x7 :: x8 :: x9 :: x10 :: x11 :: x12 :: x13 :: x14 :: x15 :: x16 :: x17 :: y :: q := rfl
@[simp] theorem nX18 : nX 18 = [.und, .und, .und, .und, .und, .und, .und, .und, .und, .und, .und, .und, .und, .und, .und, .und, .und, .und] := rfl
@[simp] theorem nO18 : nO 18 = [none, none, none, none, none, none, none, none, none, none, none, none, none, none, none, none, none, none] := rfl
@[simp] theorem gX19 {x0 x1 x2 x3 x4 x5 x6 x7 x8 x9 x10 x11 x12 x13 x14 x15 x16 x17 x18 x19 : X} : gX (x0 :: x1 :: x2 :: x3 :: x4 :: x5 :: x6 :: x7 :: x8 :: x9 :: x10 :: x11 :: x12 :: x13 :: x14 :: x15 :: x16 :: x17 :: x18 :: x19 :: r) 19 = x19 := rfl
@[simp] theorem sX19 {x0 x1 x2 x3 x4 x5 x6 x7 x8 x9 x10 x11 x12 x13 x14 x15 x16 x17 x18 x19 : X} : sX (x0 :: x1 :: x2 :: x3 :: x4 :: x5 :: x6 :: x7 :: x8 :: x9 :: x10 :: x11 :: x12 :: x13 :: x14 :: x15 :: x16 :: x17 :: x18 :: x19 :: r) 19 z = x0 :: x1 :: x2 :: x3 :: x4 :: x5 :: x6 :: x7 :: x8 :: x9 :: x10 :: x11 :: x12 :: x13 :: x14 :: x15 :: x16 :: x17 :: x18 :: z :: r := rfl
@[simp] theorem gO19 {x0 x1 x2 x3 x4 x5 x6 x7 x8 x9 x10 x11 x12 x13 x14 x15 x16 x17 x18 x19 : Option Ob} : gO (x0 :: x1 :: x2 :: x3 :: x4 :: x5 :: x6 :: x7 :: x8 :: x9 :: x10 :: x11 :: x12 :: x13 :: x14 :: x15 :: x16 :: x17 :: x18 :: x19 :: q) 19 = x19 := rfl
@[simp] theorem sO19 {x0 x1 x2 x3 x4 x5 x6 x7 x8 x9 x10 x11 x12 x13 x14 x15 x16 x17 x18 x19 : Option Ob} : sO (x0 :: x1 :: x2 :: x3 :: x4 :: x5 :: x6 :: x7 :: x8 :: x9 :: x10 :: x11 :: x12 :: x13 :: x14 :: x15 :: x16 :: x17 :: x18 :: x19 :: q) 19 y = x0 :: x1 :: x2 :: x3 :: x4 :: x5 :: x6 :: x7 :: x8 :: x9 :: x10 :: x11 :: x12 :: x13 :: x14 :: x15 :: x16 :: x17 :: x18 :: y :: q := rfl
@[simp] theorem nX19 : nX 19 = [.und, .und, .und, .und, .und, .und, .und, .und, .und, .und, .und, .und, .und, .und, .und, .und, .und, .und, .und] := rfl
@[simp] theorem nO19 : nO 19 = [none, none, none, none, none, none, none, none, none, none, none, none, none, none, none, none, none, none, none] := rfl
@[simp] theorem gX20 {x0 x1 x2 x3 x4 x5 x6 x7 x8 x9 x10 x11 x12 x13 x14 x15 x16 x17 x18 x19 x20 : X} : gX (x0 :: x1 :: x2 :: x3 :: x4 :: x5 :: x6 :: x7 :: x8 :: x9 :: x10 :: x11 :: x12 :: x13 :: x14 :: x15 :: x16 :: x17 :: x18 :: x19 :: x20 :: r) 20 = x20 := rfl
@[simp] theorem sX20 {x0 x1 x2 x3 x4 x5 x6 x7 x8 x9 x10 x11 x12 x13 x14 x15 x16 x17 x18 x19 x20 : X} : sX (x0 :: x1 :: x2 :: x3 :: x4 :: x5 :: x6 :: x7 :: x8 :: x9 :: x10 :: x11 :: x12 :: x13 :: x14 :: x15 :: x16 :: x17 :: x18 :: x19 :: x20 :: r) 20 z = x0 :: x1 :: x2 :: x3 :: x4 :: x5 :: x6 :: x7 :: x8 :: x9 :: x10 :: x11 :: x12 :: x13 :: x14 :: x15 :: x16 :: x17 :: x18 :: x19 :: z :: r := rfl
@[simp] theorem gO20 {x0 x1 x2 x3 x4 x5 x6 x7 x8 x9 x10 x11 x12 x13 x14 x15 x16 x17 x18 x19 x20 : Option Ob} : gO (x0 :: x1 :: x2 :: x3 :: x4 :: x5 :: x6 :: x7 :: x8 :: x9 :: x10 :: x11 :: x12 :: x13 :: x14 :: x15 :: x16 :: x17 :: x18 :: x19 :: x20 :: q) 20 = x20 := rfl
@[simp] theorem sO20 {x0 x1 x2 x3 x4 x5 x6 x7 x8 x9 x10 x11 x12 x13 x14 x15 x16 x17 x18 x19 x20 : Option Ob} : sO (x0 :: x1 :: x2 :: x3 :: x4 :: x5 :: x6 :: x7 :: x8 :: x9 :: x10 :: x11 :: x12 :: x13 :: x14 :: x15 :: x16 :: x17 :: x18 :: x19 :: x20 :: q) 20 y = x0 :: x1 :: x2 :: x3 :: x4 :: x5 :: x6 :: x7 :: x8 :: x9 :: x10 :: x11 :: x12 :: x13 :: x14 :: x15 :: x16 :: x17 :: x18 :: x19 :: y :: q := rfl
@[simp] theorem nX20 : nX 20 = [.und, .und, .und, .und, .und, .und, .und, .und, .und, .und, .und, .und, .und, .und, .und, .und, .und, .und, .und, .und] := rfl
@[simp] theorem nO20 : nO 20 = [none, none, none, none, none, none, none, none, none, none, none, none, none, none, none, none, none, none, none, none] := rfl
@[simp] theorem gX21 {x0 x1 x2 x3 x4 x5 x6 x7 x8 x9 x10 x11 x12 x13 x14 x15 x16 x17 x18 x19 x20 x21 : X} : gX (x0 :: x1 :: x2 :: x3 :: x4 :: x5 :: x6 :: x7 :: x8 :: x9 :: x10 :: x11 :: x12 :: x13 :: x14 :: x15 :: x16 :: x17 :: x18 :: x19 :: x20 :: x21 :: r) 21 = x21 := rfl
@[simp] theorem sX21 {x0 x1 x2 x3 x4 x5 x6 x7 x8 x9 x10 x11 x12 x13 x14 x15 x16 x17 x18 x19 x20 x21 : X} : sX (x0 :: x1 :: x2 :: x3 :: x4 :: x5 :: x6 :: x7 :: x8 :: x9 :: x10 :: x11 :: x12 :: x13 :: x14 :: x15 :: x16 :: x17 :: x18 :: x19 :: x20 :: x21 :: r) 21 z = x0 :: x1 :: x2 :: x3 :: x4 :: x5 :: x6 :: x7 :: x8 :: x9 :: x10 :: x11 :: x12 :: x13 :: x14 :: x15 :: x16 :: x17 :: x18 :: x19 :: x20 :: z :: r := rfl
@[simp] theorem gO21 {x0 x1 x2 x3 x4 x5 x6 x7 x8 x9 x10 x11 x12 x13 x14 x15 x16 x17 x18 x19 x20 x21 : Option Ob} : gO (x0 :: x1 :: x2 :: x3 :: x4 :: x5 :: x6 :: x7 :: x8 :: x9 :: x10 :: x11 :: x12 :: x13 :: x14 :: x15 :: x16 :: x17 :: x18 :: x19 :: x20 :: x21 :: q) 21 = x21 := rfl
@[simp] theorem sO21 {x0 x1 x2 x3 x4 x5 x6 x7 x8 x9 x10 x11 x12 x13 x14 x15 x16 x17 x18 x19 x20 x21 : Option Ob} : sO (x0 :: x1 :: x2 :: x3 :: x4 :: x5 :: x6 :: x7 :: x8 :: x9 :: x10 :: x11 :: x12 :: x13 :: x14 :: x15 :: x16 :: x17 :: x18 :: x19 :: x20 :: x21 :: q) 21 y = x0 :: x1 :: x2 :: x3 :: x4 :: x5 :: x6 :: x7 :: x8 :: x9 :: x10 :: x11 :: x12 :: x13 :: x14 :: x15 :: x16 :: x17 :: x18 :: x19 :: x20 :: y :: q := rfl
@[simp] theorem nX21 : nX 21 = [.und, .und, .und, .und, .und, .und, .und, .und, .und, .und, .und, .und, .und, .und, .und, .und, .und, .und, .und, .und, .und] := rfl
@[simp] theorem nO21 : nO 21 = [none, none, none, none, none, none, none, none, none, none, none, none, none, none, none, none, none, none, none, none, none] := rfl
@[simp] theorem gX22 {x0 x1 x2 x3 x4 x5 x6 x7 x8 x9 x10 x11 x12 x13 x14 x15 x16 x17 x18 x19 x20 x21 x22 : X} : gX (x0 :: x1 :: x2 :: x3 :: x4 :: x5 :: x6 :: x7 :: x8 :: x9 :: x10 :: x11 :: x12 :: x13 :: x14 :: x15 :: x16 :: x17 :: x18 :: x19 :: x20 :: x21 :: x22 :: r) 22 = x22 := rfl
@[simp] theorem sX22 {x0 x1 x2 x3 x4 x5 x6 x7 x8 x9 x10 x11 x12 x13 x14 x15 x16 x17 x18 x19 x20 x21 x22 : X} : sX (x0 :: x1 :: x2 :: x3 :: x4 :: x5 :: x6 :: x7 :: x8 :: x9 :: x10 :: x11 :: x12 :: x13 :: x14 :: x15 :: x16 :: x17 :: x18 :: x19 :: x20 :: x21 :: x22 :: r) 22 z = x0 :: x1 :: x2 :: x3 :: x4 :: x5 :: x6 :: x7 :: x8 :: x9 :: x10 :: x11 :: x12 :: x13 :: x14 :: x15 :: x16 :: x17 :: x18 :: x19 :: x20 :: x21 :: z :: r := rfl
@[simp] theorem gO22 {x0 x1 x2 x3 x4 x5 x6 x7 x8 x9 x10 x11 x12 x13 x14 x15 x16 x17 x18 x19 x20 x21 x22 : Option Ob} : gO (x0 :: x1 :: x2 :: x3 :: x4 :: x5 :: x6 :: x7 :: x8 :: x9 :: x10 :: x11 :: x12 :: x13 :: x14 :: x15 :: x16 :: x17 :: x18 :: x19 :: x20 :: x21 :: x22 :: q) 22 = x22 := rfl
@[simp] theorem sO22 {x0 x1 x2 x3 x4 x5 x6 x7 x8 x9 x10 x11 x12 x13 x14 x15 x16 x17 x18 x19 x20 x21 x22 : Option Ob} : sO (x0 :: x1 :: x2 :: x3 :: x4 :: x5 :: x6 :: x7 :: x8 :: x9 :: x10 :: x11 :: x12 :: x13 :: x14 :: x15 :: x16 :: x17 :: x18 :: x19 :: x20 :: x21 :: x22 :: q) 22 y = x0 :: x1 :: x2 :: x3 :: x4 :: x5 :: x6 :: x7 :: x8 :: x9 :: x10 :: x11 :: x12 :: x13 :: x14 :: x15 :: x16 :: x17 :: x18 :: x19 :: x20 :: x21 :: y :: q := rfl
@[simp] theorem nX22 : nX 22 = [.und, .und, .und, .und, .und, .und, .und, .und, .und, .und, .und, .und, .und, .und, .und, .und, .und, .und, .und, .und, .und, .und] := rfl
@[simp] theorem nO22 : nO 22 = [none, none, none, none, none, none, none, none, none, none, none, none, none, none, none, none, none, none, none, none, none, none] := rfl
@[simp] theorem gX23 {x0 x1 x2 x3 x4 x5 x6 x7 x8 x9 x10 x11 x12 x13 x14 x15 x16 x17 x18 x19 x20 x21 x22 x23 : X} : gX (x0 :: x1 :: x2 :: x3 :: x4 :: x5 :: x6 :: x7 :: x8 :: x9 :: x10 :: x11 :: x12 :: x13 :: x14 :: x15 :: x16 :: x17 :: x18 :: x19 :: x20 :: x21 :: x22 :: x23 :: r) 23 = x23 := rfl
@[simp] theorem sX23 {x0 x1 x2 x3 x4 x5 x6 x7 x8 x9 x10 x11 x12 x13 x14 x15 x16 x17 x18 x19 x20 x21 x22 x23 : X} : sX (x0 :: x1 :: x2 :: x3 :: x4 :: x5 :: x6 :: x7 :: x8 :: x9 :: x10 :: x11 :: x12 :: x13 :: x14 :: x15 :: x16 :: x17 :: x18 :: x19 :: x20 :: x21 :: x22 :: x23 :: r) 23 z = x0 :: x1 :: x2 :: x3 :: x4 :: x5 :: x6 :: x7 :: x8 :: x9 :: x10 :: x11 :: x12 :: x13 :: x14 :: x15 :: x16 :: x17 :: x18 :: x19 :: x20 :: x21 :: x22 :: z :: r := rfl
@[simp] theorem gO23 {x0 x1 x2 x3 x4 x5 x6 x7 x8 x9 x10 x11 x12 x13 x14 x15 x16 x17 x18 x19 x20 x21 x22 x23 : Option Ob} : gO (x0 :: x1 :: x2 :: x3 :: x4 :: x5 :: x6 :: x7 :: x8 :: x9 :: x10 :: x11 :: x12 :: x13 :: x14 :: x15 :: x16 :: x17 :: x18 :: x19 :: x20 :: x21 :: x22 :: x23 :: q) 23 = x23 := rfl
@[simp] theorem sO23 {x0 x1 x2 x3 x4 x5 x6 x7 x8 x9 x10 x11 x12 x13 x14 x15 x16 x17 x18 x19 x20 x21 x22 x23 : Option Ob} : sO (x0 :: x1 :: x2 :: x3 :: x4 :: x5 :: x6 :: x7 :: x8 :: x9 :: x10 :: x11 :: x12 :: x13 :: x14 :: x15 :: x16 :: x17 :: x18 :: x19 :: x20 :: x21 :: x22 :: x23 :: q) 23 y = x0 :: x1 :: x2 :: x3 :: x4 :: x5 :: x6 :: x7 :: x8 :: x9 :: x10 :: x11 :: x12 :: x13 :: x14 :: x15 :: x16 :: x17 :: x18 :: x19 :: x20 :: x21 :: x22 :: y :: q := rfl
@[simp] theorem nX23 : nX 23 = [.und, .und, .und, .und, .und, .und, .und, .und, .und, .und, .und, .und, .und, .und, .und, .und, .und, .und, .und, .und, .und, .und, .und] := rfl
@[simp] theorem nO23 : nO 23 = [none, none, none, none, none, none, none, none, none, none, none, none, none, none, none, none, none, none, none, none, none, none, none] := rfl
@[simp] theorem gX24 {x0 x1 x2 x3 x4 x5 x6 x7 x8 x9 x10 x11 x12 x13 x14 x15 x16 x17 x18 x19 x20 x21 x22 x23 x24 : X} : gX (x0 :: x1 :: x2 :: x3 :: x4 :: x5 :: x6 :: x7 :: x8 :: x9 :: x10 :: x11 :: x12 :: x13 :: x14 :: x15 :: x16 :: x17 :: x18 :: x19 :: x20 :: x21 :: x22 :: x23 :: x24 :: r) 24 = x24 := rfl
@[simp] theorem sX24 {x0 x1 x2 x3 x4 x5 x6 x7 x8 x9 x10 x11 x12 x13 x14 x15 x16 x17 x18 x19 x20 x21 x22 x23 x24 : X} : sX (x0 :: x1 :: x2 :: x3 :: x4 :: x5 :: x6 :: x7 :: x8 :: x9 :: x10 :: x11 :: x12 :: x13 :: x14 :: x15 :: x16 :: x17 :: x18 :: x19 :: x20 :: x21 :: x22 :: x23 :: x24 :: r) 24 z = x0 :: x1 :: x2 :: x3 :: x4 :: x5 :: x6 :: x7 :: x8 :: x9 :: x10 :: x11 :: x12 :: x13 :: x14 :: x15 :: x16 :: x17 :: x18 :: x19 :: x20 :: x21 :: x22 :: x23 :: z :: r := rfl
@[simp] theorem gO24 {x0 x1 x2 x3 x4 x5 x6 x7 x8 x9 x10 x11 x12 x13 x14 x15 x16 x17 x18 x19 x20 x21 x22 x23 x24 : Option Ob} : gO (x0 :: x1 :: x2 :: x3 :: x4 :: x5 :: x6 :: x7 :: x8 :: x9 :: x10 :: x11 :: x12 :: x13 :: x14 :: x15 :: x16 :: x17 :: x18 :: x19 :: x20 :: x21 :: x22 :: x23 :: x24 :: q) 24 = x24 := rfl
@[simp] theorem sO24 {x0 x1 x2 x3 x4 x5 x6 x7 x8 x9 x10 x11 x12 x13 x14 x15 x16 x17 x18 x19 x20 x21 x22 x23 x24 : Option Ob} : sO (x0 :: x1 :: x2 :: x3 :: x4 :: x5 :: x6 :: x7 :: x8 :: x9 :: x10 :: x11 :: x12 :: x13 :: x14 :: x15 :: x16 :: x17 :: x18 :: x19 :: x20 :: x21 :: x22 :: x23 :: x24 :: q) 24 y = x0 :: x1 :: x2 :: x3 :: x4 :: x5 :: x6 :: x7 :: x8 :: x9 :: x10 :: x11 :: x12 :: x13 :: x14 :: x15 :: x16 :: x17 :: x18 :: x19 :: x20 :: x21 :: x22 :: x23 :: y :: q := rfl
@[simp] theorem nX24 : nX 24 = [.und, .und, .und, .und, .und, .und, .und, .und, .und, .und, .und, .und, .und, .und, .und, .und, .und, .und, .und, .und, .und, .und, .und, .und] := rfl
@[simp] theorem nO24 : nO 24 = [none, none, none, none, none, none, none, none, none, none, none, none, none, none, none, none, none, none, none, none, none, none, none, none] := rfl
@[simp] theorem gX25 {x0 x1 x2 x3 x4 x5 x6 x7 x8 x9 x10 x11 x12 x13 x14 x15 x16 x17 x18 x19 x20 x21 x22 x23 x24 x25 : X} : gX (x0 :: x1 :: x2 :: x3 :: x4 :: x5 :: x6 :: x7 :: x8 :: x9 :: x10 :: x11 :: x12 :: x13 :: x14 :: x15 :: x16 :: x17 :: x18 :: x19 :: x20 :: x21 :: x22 :: x23 :: x24 :: x25 :: r) 25 = x25 := rfl
@[simp] theorem sX25 {x0 x1 x2 x3 x4 x5 x6 x7 x8 x9 x10 x11 x12 x13 x14 x15 x16 x17 x18 x19 x20 x21 x22 x23 x24 x25 : X} : sX (x0 :: x1 :: x2 :: x3 :: x4 :: x5 :: x6 :: x7 :: x8 :: x9 :: x10 :: x11 :: x12 :: x13 :: x14 :: x15 :: x16 :: x17 :: x18 :: x19 :: x20 :: x21 :: x22 :: x23 :: x24 :: x25 :: r) 25 z = x0 :: x1 :: x2 :: x3 :: x4 :: x5 :: x6 :: x7 :: x8 :: x9 :: x10 :: x11 :: x12 :: x13 :: x14 :: x15 :: x16 :: x17 :: x18 :: x19 :: x20 :: x21 :: x22 :: x23 :: x24 :: z :: r := rfl
@[simp] theorem gO25 {x0 x1 x2 x3 x4 x5 x6 x7 x8 x9 x10 x11 x12 x13 x14 x15 x16 x17 x18 x19 x20 x21 x22 x23 x24 x25 : Option Ob} : gO (x0 :: x1 :: x2 :: x3 :: x4 :: x5 :: x6 :: x7 :: x8 :: x9 :: x10 :: x11 :: x12 :: x13 :: x14 :: x15 :: x16 :: x17 :: x18 :: x19 :: x20 :: x21 :: x22 :: x23 :: x24 :: x25 :: q) 25 = x25 := rfl
@[simp] theorem sO25 {x0 x1 x2 x3 x4 x5 x6 x7 x8 x9 x10 x11 x12 x13 x14 x15 x16 x17 x18 x19 x20 x21 x22 x23 x24 x25 : Option Ob} : sO (x0 :: x1 :: x2 :: x3 :: x4 :: x5 :: x6 :: x7 :: x8 :: x9 :: x10 :: x11 :: x12 :: x13 :: x14 :: x15 :: x16 :: x17 :: x18 :: x19 :: x20 :: x21 :: x22 :: x23 :: x24 :: x25 :: q) 25 y = x0 :: x1 :: x2 :: x3 :: x4 :: x5 :: x6 :: x7 :: x8 :: x9 :: x10 :: x11 :: x12 :: x13 :: x14 :: x15 :: x16 :: x17 :: x18 :: x19 :: x20 :: x21 :: x22 :: x23 :: x24 :: y :: q := rfl
@[simp] theorem nX25 : nX 25 = [.und, .und, .und, .und, .und, .und, .und, .und, .und, .und, .und, .und, .und, .und, .und, .und, .und, .und, .und, .und, .und, .und, .und, .und, .und] := rfl
@[simp] theorem nO25 : nO 25 = [none, none, none, none, none, none, none, none, none, none, none, none, none, none, none, none, none, none, none, none, none, none, none, none, none] := rfl
@[simp] theorem gX26 {x0 x1 x2 x3 x4 x5 x6 x7 x8 x9 x10 x11 x12 x13 x14 x15 x16 x17 x18 x19 x20 x21 x22 x23 x24 x25 x26 : X} : gX (x0 :: x1 :: x2 :: x3 :: x4 :: x5 :: x6 :: x7 :: x8 :: x9 :: x10 :: x11 :: x12 :: x13 :: x14 :: x15 :: x16 :: x17 :: x18 :: x19 :: x20 :: x21 :: x22 :: x23 :: x24 :: x25 :: x26 :: r) 26 = x26 := rfl
@[simp] theorem sX26 {x0 x1 x2 x3 x4 x5 x6 x7 x8 x9 x10 x11 x12 x13 x14 x15 x16 x17 x18 x19 x20 x21 x22 x23 x24 x25 x26 : X} : sX (x0 :: x1 :: x2 :: x3 :: x4 :: x5 :: x6 :: x7 :: x8 :: x9 :: x10 :: x11 :: x12 :: x13 :: x14 :: x15 :: x16 :: x17 :: x18 :: x19 :: x20 :: x21 :: x22 :: x23 :: x24 :: x25 :: x26 :: r) 26 z = x0 :: x1 :: x2 :: x3 :: x4 :: x5 :: x6 :: x7 :: x8 :: x9 :: x10 :: x11 :: x12 :: x13 :: x14 :: x15 :: x16 :: x17 :: x18 :: x19 :: x20 :: x21 :: x22 :: x23 :: x24 :: x25 :: z :: r := rfl
@[simp] theorem gO26 {x0 x1 x2 x3 x4 x5 x6 x7 x8 x9 x10 x11 x12 x13 x14 x15 x16 x17 x18 x19 x20 x21 x22 x23 x24 x25 x26 : Option Ob} : gO (x0 :: x1 :: x2 :: x3 :: x4 :: x5 :: x6 :: x7 :: x8 :: x9 :: x10 :: x11 :: x12 :: x13 :: x14 :: x15 :: x16 :: x17 :: x18 :: x19 :: x20 :: x21 :: x22 :: x23 :: x24 :: x25 :: x26 :: q) 26 = x26 := rfl
@[simp] theorem sO26 {x0 x1 x2 x3 x4 x5 x6 x7 x8 x9 x10 x11 x12 x13 x14 x15 x16 x17 x18 x19 x20 x21 x22 x23 x24 x25 x26 : Option Ob} : sO (x0 :: x1 :: x2 :: x3 :: x4 :: x5 :: x6 :: x7 :: x8 :: x9 :: x10 :: x11 :: x12 :: x13 :: x14 :: x15 :: x16 :: x17 :: x18 :: x19 :: x20 :: x21 :: x22 :: x23 :: x24 :: x25 :: x26 :: q) 26 y = x0 :: x1 :: x2 :: x3 :: x4 :: x5 :: x6 :: x7 :: x8 :: x9 :: x10 :: x11 :: x12 :: x13 :: x14 :: x15 :: x16 :: x17 :: x18 :: x19 :: x20 :: x21 :: x22 :: x23 :: x24 :: x25 :: y :: q := rfl
@[simp] theorem nX26 : nX 26 = [.und, .und, .und, .und, .und, .und, .und, .und, .und, .und, .und, .und, .und, .und, .und, .und, .und, .und, .und, .und, .und, .und, .und, .und, .und, .und] := rfl
@[simp] theorem nO26 : nO 26 = [none, none, none, none, none, none, none, none, none, none, none, none, none, none, none, none, none, none, none, none, none, none, none, none, none, none] := rfl
@[simp] theorem gX27 {x0 x1 x2 x3 x4 x5 x6 x7 x8 x9 x10 x11 x12 x13 x14 x15 x16 x17 x18 x19 x20 x21 x22 x23 x24 x25 x26 x27 : X} : gX (x0 :: x1 :: x2 :: x3 :: x4 :: x5 :: x6 :: x7 :: x8 :: x9 :: x10 :: x11 :: x12 :: x13 :: x14 :: x15 :: x16 :: x17 :: x18 :: x19 :: x20 :: x21 :: x22 :: x23 :: x24 :: x25 :: x26 :: x27 :: r) 27 = x27 := rfl
@[simp] theorem sX27 {x0 x1 x2 x3 x4 x5 x6 x7 x8 x9 x10 x11 x12 x13 x14 x15 x16 x17 x18 x19 x20 x21 x22 x23 x24 x25 x26 x27 : X} : sX (x0 :: x1 :: x2 :: x3 :: x4 :: x5 :: x6 :: x7 :: x8 :: x9 :: x10 :: x11 :: x12 :: x13 :: x14 :: x15 :: x16 :: x17 :: x18 :: x19 :: x20 :: x21 :: x22 :: x23 :: x24 :: x25 :: x26 :: x27 :: r) 27 z = x0 :: x1 :: x2 :: x3 :: x4 :: x5 :: x6 :: x7 :: x8 :: x9 :: x10 :: x11 :: x12 :: x13 :: x14 :: x15 :: x16 :: x17 :: x18 :: x19 :: x20 :: x21 :: x22 :: x23 :: x24 :: x25 :: x26 :: z :: r := rfl
@[simp] theorem gO27 {x0 x1 x2 x3 x4 x5 x6 x7 x8 x9 x10 x11 x12 x13 x14 x15 x16 x17 x18 x19 x20 x21 x22 x23 x24 x25 x26 x27 : Option Ob} : gO (x0 :: x1 :: x2 :: x3 :: x4 :: x5 :: x6 :: x7 :: x8 :: x9 :: x10 :: x11 :: x12 :: x13 :: x14 :: x15 :: x16 :: x17 :: x18 :: x19 :: x20 :: x21 :: x22 :: x23 :: x24 :: x25 :: x26 :: x27 :: q) 27 = x27 := rfl
@[simp] theorem sO27 {x0 x1 x2 x3 x4 x5 x6 x7 x8 x9 x10 x11 x12 x13 x14 x15 x16 x17 x18 x19 x20 x21 x22 x23 x24 x25 x26 x27 : Option Ob} : sO (x0 :: x1 :: x2 :: x3 :: x4 :: x5 :: x6 :: x7 :: x8 :: x9 :: x10 :: x11 :: x12 :: x13 :: x14 :: x15 :: x16 :: x17 :: x18 :: x19 :: x20 :: x21 :: x22 :: x23 :: x24 :: x25 :: x26 :: x27 :: q) 27 y = x0 :: x1 :: x2 :: x3 :: x4 :: x5 :: x6 :: x7 :: x8 :: x9 :: x10 :: x11 :: x12 :: x13 :: x14 :: x15 :: x16 :: x17 :: x18 :: x19 :: x20 :: x21 :: x22 :: x23 :: x24 :: x25 :: x26 :: y :: q := rfl
@[simp] theorem nX27 : nX 27 = [.und, .und, .und, .und, .und, .und, .und, .und, .und, .und, .und, .und, .und, .und, .und, .und, .und, .und, .und, .und, .und, .und, .und, .und, .und, .und, .und] := rfl
@[simp] theorem nO27 : nO 27 = [none, none, none, none, none, none, none, none, none, none, none, none, none, none, none, none, none, none, none, none, none, none, none, none, none, none, none] := rfl
@[simp] theorem gX28 {x0 x1 x2 x3 x4 x5 x6 x7 x8 x9 x10 x11 x12 x13 x14 x15 x16 x17 x18 x19 x20 x21 x22 x23 x24 x25 x26 x27 x28 : X} : gX (x0 :: x1 :: x2 :: x3 :: x4 :: x5 :: x6 :: x7 :: x8 :: x9 :: x10 :: x11 :: x12 :: x13 :: x14 :: x15 :: x16 :: x17 :: x18 :: x19 :: x20 :: x21 :: x22 :: x23 :: x24 :: x25 :: x26 :: x27 :: x28 :: r) 28 = x28 := rfl
@[simp] theorem sX28 {x0 x1 x2 x3 x4 x5 x6 x7 x8 x9 x10 x11 x12 x13 x14 x15 x16 x17 x18 x19 x20 x21 x22 x23 x24 x25 x26 x27 x28 : X} : sX (x0 :: x1 :: x2 :: x3 :: x4 :: x5 :: x6 :: x7 :: x8 :: x9 :: x10 :: x11 :: x12 :: x13 :: x14 :: x15 :: x16 :: x17 :: x18 :: x19 :: x20 :: x21 :: x22 :: x23 :: x24 :: x25 :: x26 :: x27 :: x28 :: r) 28 z = x0 :: x1 :: x2 :: x3 :: x4 :: x5 :: x6 :: x7 :: x8 :: x9 :: x10 :: x11 :: x12 :: x13 :: x14 :: x15 :: x16 :: x17 :: x18 :: x19 :: x20 :: x21 :: x22 :: x23 :: x24 :: x25 :: x26 :: x27 :: z :: r := rfl
@[simp] theorem gO28 {x0 x1 x2 x3 x4 x5 x6 x7 x8 x9 x10 x11 x12 x13 x14 x15 x16 x17 x18 x19 x20 x21 x22 x23 x24 x25 x26 x27 x28 : Option Ob} : gO (x0 :: x1 :: x2 :: x3 :: x4 :: x5 :: x6 :: x7 :: x8 :: x9 :: x10 :: x11 :: x12 :: x13 :: x14 :: x15 :: x16 :: x17 :: x18 :: x19 :: x20 :: x21 :: x22 :: x23 :: x24 :: x25 :: x26 :: x27 :: x28 :: q) 28 = x28 := rfl
@[simp] theorem sO28 {x0 x1 x2 x3 x4 x5 x6 x7 x8 x9 x10 x11 x12 x13 x14 x15 x16 x17 x18 x19 x20 x21 x22 x23 x24 x25 x26 x27 x28 : Option Ob} : sO (x0 :: x1 :: x2 :: x3 :: x4 :: x5 :: x6 :: x7 :: x8 :: x9 :: x10 :: x11 :: x12 :: x13 :: x14 :: x15 :: x16 :: x17 :: x18 :: x19 :: x20 :: x21 :: x22 :: x23 :: x24 :: x25 :: x26 :: x27 :: x28 :: q) 28 y = x0 :: x1 :: x2 :: x3 :: x4 :: x5 :: x6 :: x7 :: x8 :: x9 :: x10 :: x11 :: x12 :: x13 :: x14 :: x15 :: x16 :: x17 :: x18 :: x19 :: x20 :: x21 :: x22 :: x23 :: x24 :: x25 :: x26 :: x27 :: y :: q := rfl
@[simp] theorem nX28 : nX 28 = [.und, .und, .und, .und, .und, .und, .und, .und, .und, .und, .und, .und, .und, .und, .und, .und, .und, .und, .und, .und, .und, .und, .und, .und, .und, .und, .und, .und] := rfl
@[simp] theorem nO28 : nO 28 = [none, none, none, none, none, none, none, none, none, none, none, none, none, none, none, none, none, none, none, none, none, none, none, none, none, none, none, none] := rfl
@[simp] theorem gX29 {x0 x1 x2 x3 x4 x5 x6 x7 x8 x9 x10 x11 x12 x13 x14 x15 x16 x17 x18 x19 x20 x21 x22 x23 x24 x25 x26 x27 x28 x29 : X} : gX (x0 :: x1 :: x2 :: x3 :: x4 :: x5 :: x6 :: x7 :: x8 :: x9 :: x10 :: x11 :: x12 :: x13 :: x14 :: x15 :: x16 :: x17 :: x18 :: x19 :: x20 :: x21 :: x22 :: x23 :: x24 :: x25 :: x26 :: x27 :: x28 :: x29 :: r) 29 = x29 := rfl
@[simp] theorem sX29 {x0 x1 x2 x3 x4 x5 x6 x7 x8 x9 x10 x11 x12 x13 x14 x15 x16 x17 x18 x19 x20 x21 x22 x23 x24 x25 x26 x27 x28 x29 : X} : sX (x0 :: x1 :: x2 :: x3 :: x4 :: x5 :: x6 :: x7 :: x8 :: x9 :: x10 :: x11 :: x12 :: x13 :: x14 :: x15 :: x16 :: x17 :: x18 :: x19 :: x20 :: x21 :: x22 :: x23 :: x24 :: x25 :: x26 :: x27 :: x28 :: x29 :: r) 29 z = x0 :: x1 :: x2 :: x3 :: x4 :: x5 :: x6 :: x7 :: x8 :: x9 :: x10 :: x11 :: x12 :: x13 :: x14 :: x15 :: x16 :: x17 :: x18 :: x19 :: x20 :: x21 :: x22 :: x23 :: x24 :: x25 :: x26 :: x27 :: x28 :: z :: r := rfl
@[simp] theorem gO29 {x0 x1 x2 x3 x4 x5 x6 x7 x8 x9 x10 x11 x12 x13 x14 x15 x16 x17 x18 x19 x20 x21 x22 x23 x24 x25 x26 x27 x28 x29 : Option Ob} : gO (x0 :: x1 :: x2 :: x3 :: x4 :: x5 :: x6 :: x7 :: x8 :: x9 :: x10 :: x11 :: x12 :: x13 :: x14 :: x15 :: x16 :: x17 :: x18 :: x19 :: x20 :: x21 :: x22 :: x23 :: x24 :: x25 :: x26 :: x27 :: x28 :: x29 :: q) 29 = x29 := rfl
@[simp] theorem sO29 {x0 x1 x2 x3 x4 x5 x6 x7 x8 x9 x10 x11 x12 x13 x14 x15 x16 x17 x18 x19 x20 x21 x22 x23 x24 x25 x26 x27 x28 x29 : Option Ob} : sO (x0 :: x1 :: x2 :: x3 :: x4 :: x5 :: x6 :: x7 :: x8 :: x9 :: x10 :: x11 :: x12 :: x13 :: x14 :: x15 :: x16 :: x17 :: x18 :: x19 :: x20 :: x21 :: x22 :: x23 :: x24 :: x25 :: x26 :: x27 :: x28 :: x29 :: q) 29 y = x0 :: x1 :: x2 :: x3 :: x4 :: x5 :: x6 :: x7 :: x8 :: x9 :: x10 :: x11 :: x12 :: x13 :: x14 :: x15 :: x16 :: x17 :: x18 :: x19 :: x20 :: x21 :: x22 :: x23 :: x24 :: x25 :: x26 :: x27 :: x28 :: y :: q := rfl
@[simp] theorem nX29 : nX 29 = [.und, .und, .und, .und, .und, .und, .und, .und, .und, .und, .und, .und, .und, .und, .und, .und, .und, .und, .und, .und, .und, .und, .und, .und, .und, .und, .und, .und, .und] := rfl
@[simp] theorem nO29 : nO 29 = [none, none, none, none, none, none, none, none, none, none, none, none, none, none, none, none, none, none, none, none, none, none, none, none, none, none, none, none, none] := rfl
@[simp] theorem gX30 {x0 x1 x2 x3 x4 x5 x6 x7 x8 x9 x10 x11 x12 x13 x14 x15 x16 x17 x18 x19 x20 x21 x22 x23 x24 x25 x26 x27 x28 x29 x30 : X} : gX (x0 :: x1 :: x2 :: x3 :: x4 :: x5 :: x6 :: x7 :: x8 :: x9 :: x10 :: x11 :: x12 :: x13 :: x14 :: x15 :: x16 :: x17 :: x18 :: x19 :: x20 :: x21 :: x22 :: x23 :: x24 :: x25 :: x26 :: x27 :: x28 :: x29 :: x30 :: r) 30 = x30 := rfl
@[simp] theorem sX30 {x0 x1 x2 x3 x4 x5 x6 x7 x8 x9 x10 x11 x12 x13 x14 x15 x16 x17 x18 x19 x20 x21 x22 x23 x24 x25 x26 x27 x28 x29 x30 : X} : sX (x0 :: x1 :: x2 :: x3 :: x4 :: x5 :: x6 :: x7 :: x8 :: x9 :: x10 :: x11 :: x12 :: x13 :: x14 :: x15 :: x16 :: x17 :: x18 :: x19 :: x20 :: x21 :: x22 :: x23 :: x24 :: x25 :: x26 :: x27 :: x28 :: x29 :: x30 :: r) 30 z = x0 :: x1 :: x2 :: x3 :: x4 :: x5 :: x6 :: x7 :: x8 :: x9 :: x10 :: x11 :: x12 :: x13 :: x14 :: x15 :: x16 :: x17 :: x18 :: x19 :: x20 :: x21 :: x22 :: x23 :: x24 :: x25 :: x26 :: x27 :: x28 :: x29 :: z :: r := rfl
@[simp] theorem gO30 {x0 x1 x2 x3 x4 x5 x6 x7 x8 x9 x10 x11 x12 x13 x14 x15 x16 x17 x18 x19 x20 x21 x22 x23 x24 x25 x26 x27 x28 x29 x30 : Option Ob} : gO (x0 :: x1 :: x2 :: x3 :: x4 :: x5 :: x6 :: x7 :: x8 :: x9 :: x10 :: x11 :: x12 :: x13 :: x14 :: x15 :: x16 :: x17 :: x18 :: x19 :: x20 :: x21 :: x22 :: x23 :: x24 :: x25 :: x26 :: x27 :: x28 :: x29 :: x30 :: q) 30 = x30 := rfl
@[simp] theorem sO30 {x0 x1 x2 x3 x4 x5 x6 x7 x8 x9 x10 x11 x12 x13 x14 x15 x16 x17 x18 x19 x20 x21 x22 x23 x24 x25 x26 x27 x28 x29 x30 : Option Ob} : sO (x0 :: x1 :: x2 :: x3 :: x4 :: x5 :: x6 :: x7 :: x8 :: x9 :: x10 :: x11 :: x12 :: x13 :: x14 :: x15 :: x16 :: x17 :: x18 :: x19 :: x20 :: x21 :: x22 :: x23 :: x24 :: x25 :: x26 :: x27 :: x28 :: x29 :: x30 :: q) 30 y = x0 :: x1 :: x2 :: x3 :: x4 :: x5 :: x6 :: x7 :: x8 :: x9 :: x10 :: x11 :: x12 :: x13 :: x14 :: x15 :: x16 :: x17 :: x18 :: x19 :: x20 :: x21 :: x22 :: x23 :: x24 :: x25 :: x26 :: x27 :: x28 :: x29 :: y :: q := rfl
@[simp] theorem nX30 : nX 30 = [.und, .und, .und, .und, .und, .und, .und, .und, .und, .und, .und, .und, .und, .und, .und, .und, .und, .und, .und, .und, .und, .und, .und, .und, .und, .und, .und, .und, .und, .und] := rfl
@[simp] theorem nO30 : nO 30 = [none, none, none, none, none, none, none, none, none, none, none, none, none, none, none, none, none, none, none, none, none, none, none, none, none, none, none, none, none, none] := rfl
@[simp] theorem gX31 {x0 x1 x2 x3 x4 x5 x6 x7 x8 x9 x10 x11 x12 x13 x14 x15 x16 x17 x18 x19 x20 x21 x22 x23 x24 x25 x26 x27 x28 x29 x30 x31 : X} : gX (x0 :: x1 :: x2 :: x3 :: x4 :: x5 :: x6 :: x7 :: x8 :: x9 :: x10 :: x11 :: x12 :: x13 :: x14 :: x15 :: x16 :: x17 :: x18 :: x19 :: x20 :: x21 :: x22 :: x23 :: x24 :: x25 :: x26 :: x27 :: x28 :: x29 :: x30 :: x31 :: r) 31 = x31 := rfl
@[simp] theorem sX31 {x0 x1 x2 x3 x4 x5 x6 x7 x8 x9 x10 x11 x12 x13 x14 x15 x16 x17 x18 x19 x20 x21 x22 x23 x24 x25 x26 x27 x28 x29 x30 x31 : X} : sX (x0 :: x1 :: x2 :: x3 :: x4 :: x5 :: x6 :: x7 :: x8 :: x9 :: x10 :: x11 :: x12 :: x13 :: x14 :: x15 :: x16 :: x17 :: x18 :: x19 :: x20 :: x21 :: x22 :: x23 :: x24 :: x25 :: x26 :: x27 :: x28 :: x29 :: x30 :: x31 :: r) 31 z = x0 :: x1 :: x2 :: x3 :: x4 :: x5 :: x6 :: x7 :: x8 :: x9 :: x10 :: x11 :: x12 :: x13 :: x14 :: x15 :: x16 :: x17 :: x18 :: x19 :: x20 :: x21 :: x22 :: x23 :: x24 :: x25 :: x26 :: x27 :: x28 :: x29 :: x30 :: z :: r := rfl
@[simp] theorem gO31 {x0 x1 x2 x3 x4 x5 x6 x7 x8 x9 x10 x11 x12 x13 x14 x15 x16 x17 x18 x19 x20 x21 x22 x23 x24 x25 x26 x27 x28 x29 x30 x31 : Option Ob} : gO (x0 :: x1 :: x2 :: x3 :: x4 :: x5 :: x6 :: x7 :: x8 :: x9 :: x10 :: x11 :: x12 :: x13 :: x14 :: x15 :: x16 :: x17 :: x18 :: x19 :: x20 :: x21 :: x22 :: x23 :: x24 :: x25 :: x26 :: x27 :: x28 :: x29 :: x30 :: x31 :: q) 31 = x31 := rfl
@[simp] theorem sO31 {x0 x1 x2 x3 x4 x5 x6 x7 x8 x9 x10 x11 x12 x13 x14 x15 x16 x17 x18 x19 x20 x21 x22 x23 x24 x25 x26 x27 x28 x29 x30 x31 : Option Ob} : sO (x0 :: x1 :: x2 :: x3 :: x4 :: x5 :: x6 :: x7 :: x8 :: x9 :: x10 :: x11 :: x12 :: x13 :: x14 :: x15 :: x16 :: x17 :: x18 :: x19 :: x20 :: x21 :: x22 :: x23 :: x24 :: x25 :: x26 :: x27 :: x28 :: x29 :: x30 :: x31 :: q) 31 y = x0 :: x1 :: x2 :: x3 :: x4 :: x5 :: x6 :: x7 :: x8 :: x9 :: x10 :: x11 :: x12 :: x13 :: x14 :: x15 :: x16 :: x17 :: x18 :: x19 :: x20 :: x21 :: x22 :: x23 :: x24 :: x25 :: x26 :: x27 :: x28 :: x29 :: x30 :: y :: q := rfl
@[simp] theorem nX31 : nX 31 = [.und, .und, .und, .und, .und, .und, .und, .und, .und, .und, .und, .und, .und, .und, .und, .und, .und, .und, .und, .und, .und, .und, .und, .und, .und, .und, .und, .und, .und, .und, .und] := rfl
@[simp] theorem nO31 : nO 31 = [none, none, none, none, none, none, none, none, none, none, none, none, none, none, none, none, none, none, none, none, none, none, none, none, none, none, none, none, none, none, none] := rfl
@[simp] theorem gX32 {x0 x1 x2 x3 x4 x5 x6 x7 x8 x9 x10 x11 x12 x13 x14 x15 x16 x17 x18 x19 x20 x21 x22 x23 x24 x25 x26 x27 x28 x29 x30 x31 x32 : X} : gX (x0 :: x1 :: x2 :: x3 :: x4 :: x5 :: x6 :: x7 :: x8 :: x9 :: x10 :: x11 :: x12 :: x13 :: x14 :: x15 :: x16 :: x17 :: x18 :: x19 :: x20 :: x21 :: x22 :: x23 :: x24 :: x25 :: x26 :: x27 :: x28 :: x29 :: x30 :: x31 :: x32 :: r) 32 = x32 := rfl
@[simp] theorem sX32 {x0 x1 x2 x3 x4 x5 x6 x7 x8 x9 x10 x11 x12 x13 x14 x15 x16 x17 x18 x19 x20 x21 x22 x23 x24 x25 x26 x27 x28 x29 x30 x31 x32 : X} : sX (x0 :: x1 :: x2 :: x3 :: x4 :: x5 :: x6 :: x7 :: x8 :: x9 :: x10 :: x11 :: x12 :: x13 :: x14 :: x15 :: x16 :: x17 :: x18 :: x19 :: x20 :: x21 :: x22 :: x23 :: x24 :: x25 :: x26 :: x27 :: x28 :: x29 :: x30 :: x31 :: x32 :: r) 32 z = x0 :: x1 :: x2 :: x3 :: x4 :: x5 :: x6 :: x7 :: x8 :: x9 :: x10 :: x11 :: x12 :: x13 :: x14 :: x15 :: x16 :: x17 :: x18 :: x19 :: x20 :: x21 :: x22 :: x23 :: x24 :: x25 :: x26 :: x27 :: x28 :: x29 :: x30 :: x31 :: z :: r := rfl
@[simp] theorem gO32 {x0 x1 x2 x3 x4 x5 x6 x7 x8 x9 x10 x11 x12 x13 x14 x15 x16 x17 x18 x19 x20 x21 x22 x23 x24 x25 x26 x27 x28 x29 x30 x31 x32 : Option Ob} : gO (x0 :: x1 :: x2 :: x3 :: x4 :: x5 :: x6 :: x7 :: x8 :: x9 :: x10 :: x11 :: x12 :: x13 :: x14 :: x15 :: x16 :: x17 :: x18 :: x19 :: x20 :: x21 :: x22 :: x23 :: x24 :: x25 :: x26 :: x27 :: x28 :: x29 :: x30 :: x31 :: x32 :: q) 32 = x32 := rfl
@[simp] theorem sO32 {x0 x1 x2 x3 x4 x5 x6 x7 x8 x9 x10 x11 x12 x13 x14 x15 x16 x17 x18 x19 x20 x21 x22 x23 x24 x25 x26 x27 x28 x29 x30 x31 x32 : Option Ob} : sO (x0 :: x1 :: x2 :: x3 :: x4 :: x5 :: x6 :: x7 :: x8 :: x9 :: x10 :: x11 :: x12 :: x13 :: x14 :: x15 :: x16 :: x17 :: x18 :: x19 :: x20 :: x21 :: x22 :: x23 :: x24 :: x25 :: x26 :: x27 :: x28 :: x29 :: x30 :: x31 :: x32 :: q) 32 y = x0 :: x1 :: x2 :: x3 :: x4 :: x5 :: x6 :: x7 :: x8 :: x9 :: x10 :: x11 :: x12 :: x13 :: x14 :: x15 :: x16 :: x17 :: x18 :: x19 :: x20 :: x21 :: x22 :: x23 :: x24 :: x25 :: x26 :: x27 :: x28 :: x29 :: x30 :: x31 :: y :: q := rfl
@[simp] theorem nX32 : nX 32 = [.und, .und, .und, .und, .und, .und, .und, .und, .und, .und, .und, .und, .und, .und, .und, .und, .und, .und, .und, .und, .und, .und, .und, .und, .und, .und, .und, .und, .und, .und, .und, .und] := rfl
@[simp] theorem nO32 : nO 32 = [none, none, none, none, none, none, none, none, none, none, none, none, none, none, none, none, none, none, none, none, none, none, none, none, none, none, none, none, none, none, none, none] := rfl
@[simp] theorem gX33 {x0 x1 x2 x3 x4 x5 x6 x7 x8 x9 x10 x11 x12 x13 x14 x15 x16 x17 x18 x19 x20 x21 x22 x23 x24 x25 x26 x27 x28 x29 x30 x31 x32 x33 : X} : gX (x0 :: x1 :: x2 :: x3 :: x4 :: x5 :: x6 :: x7 :: x8 :: x9 :: x10 :: x11 :: x12 :: x13 :: x14 :: x15 :: x16 :: x17 :: x18 :: x19 :: x20 :: x21 :: x22 :: x23 :: x24 :: x25 :: x26 :: x27 :: x28 :: x29 :: x30 :: x31 :: x32 :: x33 :: r) 33 = x33 := rfl
@[simp] theorem sX33 {x0 x1 x2 x3 x4 x5 x6 x7 x8 x9 x10 x11 x12 x13 x14 x15 x16 x17 x18 x19 x20 x21 x22 x23 x24 x25 x26 x27 x28 x29 x30 x31 x32 x33 : X} : sX (x0 :: x1 :: x2 :: x3 :: x4 :: x5 :: x6 :: x7 :: x8 :: x9 :: x10 :: x11 :: x12 :: x13 :: x14 :: x15 :: x16 :: x17 :: x18 :: x19 :: x20 :: x21 :: x22 :: x23 :: x24 :: x25 :: x26 :: x27 :: x28 :: x29 :: x30 :: x31 :: x32 :: x33 :: r) 33 z = x0 :: x1 :: x2 :: x3 :: x4 :: x5 :: x6 :: x7 :: x8 :: x9 :: x10 :: x11 :: x12 :: x13 :: x14 :: x15 :: x16 :: x17 :: x18 :: x19 :: x20 :: x21 :: x22 :: x23 :: x24 :: x25 :: x26 :: x27 :: x28 :: x29 :: x30 :: x31 :: x32 :: z :: r := rfl
@[simp] theorem gO33 {x0 x1 x2 x3 x4 x5 x6 x7 x8 x9 x10 x11 x12 x13 x14 x15 x16 x17 x18 x19 x20 x21 x22 x23 x24 x25 x26 x27 x28 x29 x30 x31 x32 x33 : Option Ob} : gO (x0 :: x1 :: x2 :: x3 :: x4 :: x5 :: x6 :: x7 :: x8 :: x9 :: x10 :: x11 :: x12 :: x13 :: x14 :: x15 :: x16 :: x17 :: x18 :: x19 :: x20 :: x21 :: x22 :: x23 :: x24 :: x25 :: x26 :: x27 :: x28 :: x29 :: x30 :: x31 :: x32 :: x33 :: q) 33 = x33 := rfl
@[simp] theorem sO33 {x0 x1 x2 x3 x4 x5 x6 x7 x8 x9 x10 x11 x12 x13 x14 x15 x16 x17 x18 x19 x20 x21 x22 x23 x24 x25 x26 x27 x28 x29 x30 x31 x32 x33 : Option Ob} : sO (x0 :: x1 :: x2 :: x3 :: x4 :: x5 :: x6 :: x7 :: x8 :: x9 :: x10 :: x11 :: x12 :: x13 :: x14 :: x15 :: x16 :: x17 :: x18 :: x19 :: x20 :: x21 :: x22 :: x23 :: x24 :: x25 :: x26 :: x27 :: x28 :: x29 :: x30 :: x31 :: x32 :: x33 :: q) 33 y = x0 :: x1 :: x2 :: x3 :: x4 :: x5 :: x6 :: x7 :: x8 :: x9 :: x10 :: x11 :: x12 :: x13 :: x14 :: x15 :: x16 :: x17 :: x18 :: x19 :: x20 :: x21 :: x22 :: x23 :: x24 :: x25 :: x26 :: x27 :: x28 :: x29 :: x30 :: x31 :: x32 :: y :: q := rfl
@[simp] theorem nX33 : nX 33 = [.und, .und, .und, .und, .und, .und, .und, .und, .und, .und, .und, .und, .und, .und, .und, .und, .und, .und, .und, .und, .und, .und, .und, .und, .und, .und, .und, .und, .und, .und, .und, .und, .und] := rfl
@[simp] theorem nO33 : nO 33 = [none, none, none, none, none, none, none, none, none, none, none, none, none, none, none, none, none, none, none, none, none, none, none, none, none, none, none, none, none, none, none, none, none] := rfl
@[simp] theorem gX34 {x0 x1 x2 x3 x4 x5 x6 x7 x8 x9 x10 x11 x12 x13 x14 x15 x16 x17 x18 x19 x20 x21 x22 x23 x24 x25 x26 x27 x28 x29 x30 x31 x32 x33 x34 : X} : gX (x0 :: x1 :: x2 :: x3 :: x4 :: x5 :: x6 :: x7 :: x8 :: x9 :: x10 :: x11 :: x12 :: x13 :: x14 :: x15 :: x16 :: x17 :: x18 :: x19 :: x20 :: x21 :: x22 :: x23 :: x24 :: x25 :: x26 :: x27 :: x28 :: x29 :: x30 :: x31 :: x32 :: x33 :: x34 :: r) 34 = x34 := rfl
@[simp] theorem sX34 {x0 x1 x2 x3 x4 x5 x6 x7 x8 x9 x10 x11 x12 x13 x14 x15 x16 x17 x18 x19 x20 x21 x22 x23 x24 x25 x26 x27 x28 x29 x30 x31 x32 x33 x34 : X} : sX (x0 :: x1 :: x2 :: x3 :: x4 :: x5 :: x6 :: x7 :: x8 :: x9 :: x10 :: x11 :: x12 :: x13 :: x14 :: x15 :: x16 :: x17 :: x18 :: x19 :: x20 :: x21 :: x22 :: x23 :: x24 :: x25 :: x26 :: x27 :: x28 :: x29 :: x30 :: x31 :: x32 :: x33 :: x34 :: r) 34 z = x0 :: x1 :: x2 :: x3 :: x4 :: x5 :: x6 :: x7 :: x8 :: x9 :: x10 :: x11 :: x12 :: x13 :: x14 :: x15 :: x16 :: x17 :: x18 :: x19 :: x20 :: x21 :: x22 :: x23 :: x24 :: x25 :: x26 :: x27 :: x28 :: x29 :: x30 :: x31 :: x32 :: x33 :: z :: r := rfl
@[simp] theorem gO34 {x0 x1 x2 x3 x4 x5 x6 x7 x8 x9 x10 x11 x12 x13 x14 x15 x16 x17 x18 x19 x20 x21 x22 x23 x24 x25 x26 x27 x28 x29 x30 x31 x32 x33 x34 : Option Ob} : gO (x0 :: x1 :: x2 :: x3 :: x4 :: x5 :: x6 :: x7 :: x8 :: x9 :: x10 :: x11 :: x12 :: x13 :: x14 :: x15 :: x16 :: x17 :: x18 :: x19 :: x20 :: x21 :: x22 :: x23 :: x24 :: x25 :: x26 :: x27 :: x28 :: x29 :: x30 :: x31 :: x32 :: x33 :: x34 :: q) 34 = x34 := rfl
@[simp] theorem sO34 {x0 x1 x2 x3 x4 x5 x6 x7 x8 x9 x10 x11 x12 x13 x14 x15 x16 x17 x18 x19 x20 x21 x22 x23 x24 x25 x26 x27 x28 x29 x30 x31 x32 x33 x34 : Option Ob} : sO (x0 :: x1 :: x2 :: x3 :: x4 :: x5 :: x6 :: x7 :: x8 :: x9 :: x10 :: x11 :: x12 :: x13 :: x14 :: x15 :: x16 :: x17 :: x18 :: x19 :: x20 :: x21 :: x22 :: x23 :: x24 :: x25 :: x26 :: x27 :: x28 :: x29 :: x30 :: x31 :: x32 :: x33 :: x34 :: q) 34 y = x0 :: x1 :: x2 :: x3 :: x4 :: x5 :: x6 :: x7 :: x8 :: x9 :: x10 :: x11 :: x12 :: x13 :: x14 :: x15 :: x16 :: x17 :: x18 :: x19 :: x20 :: x21 :: x22 :: x23 :: x24 :: x25 :: x26 :: x27 :: x28 :: x29 :: x30 :: x31 :: x32 :: x33 :: y :: q := rfl
@[simp] theorem nX34 : nX 34 = [.und, .und, .und, .und, .und, .und, .und, .und, .und, .und, .und, .und, .und, .und, .und, .und, .und, .und, .und, .und, .und, .und, .und, .und, .und, .und, .und, .und, .und, .und, .und, .und, .und, .und] := rfl
@[simp] theorem nO34 : nO 34 = [none, none, none, none, none, none, none, none, none, none, none, none, none, none, none, none, none, none, none, none, none, none, none, none, none, none, none, none, none, none, none, none, none, none] := rfl
@[simp] theorem gX35 {x0 x1 x2 x3 x4 x5 x6 x7 x8 x9 x10 x11 x12 x13 x14 x15 x16 x17 x18 x19 x20 x21 x22 x23 x24 x25 x26 x27 x28 x29 x30 x31 x32 x33 x34 x35 : X} : gX (x0 :: x1 :: x2 :: x3 :: x4 :: x5 :: x6 :: x7 :: x8 :: x9 :: x10 :: x11 :: x12 :: x13 :: x14 :: x15 :: x16 :: x17 :: x18 :: x19 :: x20 :: x21 :: x22 :: x23 :: x24 :: x25 :: x26 :: x27 :: x28 :: x29 :: x30 :: x31 :: x32 :: x33 :: x34 :: x35 :: r) 35 = x35 := rfl
@[simp] theorem sX35 {x0 x1 x2 x3 x4 x5 x6 x7 x8 x9 x10 x11 x12 x13 x14 x15 x16 x17 x18 x19 x20 x21 x22 x23 x24 x25 x26 x27 x28 x29 x30 x31 x32 x33 x34 x35 : X} : sX (x0 :: x1 :: x2 :: x3 :: x4 :: x5 :: x6 :: x7 :: x8 :: x9 :: x10 :: x11 :: x12 :: x13 :: x14 :: x15 :: x16 :: x17 :: x18 :: x19 :: x20 :: x21 :: x22 :: x23 :: x24 :: x25 :: x26 :: x27 :: x28 :: x29 :: x30 :: x31 :: x32 :: x33 :: x34 :: x35 :: r) 35 z = x0 :: x1 :: x2 :: x3 :: x4 :: x5 :: x6 :: x7 :: x8 :: x9 :: x10 :: x11 :: x12 :: x13 :: x14 :: x15 :: x16 :: x17 :: x18 :: x19 :: x20 :: x21 :: x22 :: x23 :: x24 :: x25 :: x26 :: x27 :: x28 :: x29 :: x30 :: x31 :: x32 :: x33 :: x34 :: z :: r := rfl
@[simp] theorem gO35 {x0 x1 x2 x3 x4 x5 x6 x7 x8 x9 x10 x11 x12 x13 x14 x15 x16 x17 x18 x19 x20 x21 x22 x23 x24 x25 x26 x27 x28 x29 x30 x31 x32 x33 x34 x35 : Option Ob} : gO (x0 :: x1 :: x2 :: x3 :: x4 :: x5 :: x6 :: x7 :: x8 :: x9 :: x10 :: x11 :: x12 :: x13 :: x14 :: x15 :: x16 :: x17 :: x18 :: x19 :: x20 :: x21 :: x22 :: x23 :: x24 :: x25 :: x26 :: x27 :: x28 :: x29 :: x30 :: x31 :: x32 :: x33 :: x34 :: x35 :: q) 35 = x35 := rfl
@[simp] theorem sO35 {x0 x1 x2 x3 x4 x5 x6 x7 x8 x9 x10 x11 x12 x13 x14 x15 x16 x17 x18 x19 x20 x21 x22 x23 x24 x25 x26 x27 x28 x29 x30 x31 x32 x33 x34 x35 : Option Ob} : sO (x0 :: x1 :: x2 :: x3 :: x4 :: x5 :: x6 :: x7 :: x8 :: x9 :: x10 :: x11 :: x12 :: x13 :: x14 :: x15 :: x16 :: x17 :: x18 :: x19 :: x20 :: x21 :: x22 :: x23 :: x24 :: x25 :: x26 :: x27 :: x28 :: x29 :: x30 :: x31 :: x32 :: x33 :: x34 :: x35 :: q) 35 y = x0 :: x1 :: x2 :: x3 :: x4 :: x5 :: x6 :: x7 :: x8 :: x9 :: x10 :: x11 :: x12 :: x13 :: x14 :: x15 :: x16 :: x17 :: x18 :: x19 :: x20 :: x21 :: x22 :: x23 :: x24 :: x25 :: x26 :: x27 :: x28 :: x29 :: x30 :: x31 :: x32 :: x33 :: x34 :: y :: q := rfl
@[simp] theorem nX35 : nX 35 = [.und, .und, .und, .und, .und, .und, .und, .und, .und, .und, .und, .und, .und, .und, .und, .und, .und, .und, .und, .und, .und, .und, .und, .und, .und, .und, .und, .und, .und, .und, .und, .und, .und, .und, .und] := rfl
@[simp] theorem nO35 : nO 35 = [none, none, none, none, none, none, none, none, none, none, none, none, none, none, none, none, none, none, none, none, none, none, none, none, none, none, none, none, none, none, none, none, none, none, none] := rfl
@[simp] theorem gX36 {x0 x1 x2 x3 x4 x5 x6 x7 x8 x9 x10 x11 x12 x13 x14 x15 x16 x17 x18 x19 x20 x21 x22 x23 x24 x25 x26 x27 x28 x29 x30 x31 x32 x33 x34 x35 x36 : X} : gX (x0 :: x1 :: x2 :: x3 :: x4 :: x5 :: x6 :: x7 :: x8 :: x9 :: x10 :: x11 :: x12 :: x13 :: x14 :: x15 :: x16 :: x17 :: x18 :: x19 :: x20 :: x21 :: x22 :: x23 :: x24 :: x25 :: x26 :: x27 :: x28 :: x29 :: x30 :: x31 :: x32 :: x33 :: x34 :: x35 :: x36 :: r) 36 = x36 := rfl
@[simp] theorem sX36 {x0 x1 x2 x3 x4 x5 x6 x7 x8 x9 x10 x11 x12 x13 x14 x15 x16 x17 x18 x19 x20 x21 x22 x23 x24 x25 x26 x27 x28 x29 x30 x31 x32 x33 x34 x35 x36 : X} : sX (x0 :: x1 :: x2 :: x3 :: x4 :: x5 :: x6 :: x7 :: x8 :: x9 :: x10 :: x11 :: x12 :: x13 :: x14 :: x15 :: x16 :: x17 :: x18 :: x19 :: x20 :: x21 :: x22 :: x23 :: x24 :: x25 :: x26 :: x27 :: x28 :: x29 :: x30 :: x31 :: x32 :: x33 :: x34 :: x35 :: x36 :: r) 36 z = x0 :: x1 :: x2 :: x3 :: x4 :: x5 :: x6 :: x7 :: x8 :: x9 :: x10 :: x11 :: x12 :: x13 :: x14 :: x15 :: x16 :: x17 :: x18 :: x19 :: x20 :: x21 :: x22 :: x23 :: x24 :: x25 :: x26 :: x27 :: x28 :: x29 :: x30 :: x31 :: x32 :: x33 :: x34 :: x35 :: z :: r := rfl
@[simp] theorem gO36 {x0 x1 x2 x3 x4 x5 x6 x7 x8 x9 x10 x11 x12 x13 x14 x15 x16 x17 x18 x19 x20 x21 x22 x23 x24 x25 x26 x27 x28 x29 x30 x31 x32 x33 x34 x35 x36 : Option Ob} : gO (x0 :: x1 :: x2 :: x3 :: x4 :: x5 :: x6 :: x7 :: x8 :: x9 :: x10 :: x11 :: x12 :: x13 :: x14 :: x15 :: x16 :: x17 :: x18 :: x19 :: x20 :: x21 :: x22 :: x23 :: x24 :: x25 :: x26 :: x27 :: x28 :: x29 :: x30 :: x31 :: x32 :: x33 :: x34 :: x35 :: x36 :: q) 36 = x36 := rfl
@[simp] theorem sO36 {x0 x1 x2 x3 x4 x5 x6 x7 x8 x9 x10 x11 x12 x13 x14 x15 x16 x17 x18 x19 x20 x21 x22 x23 x24 x25 x26 x27 x28 x29 x30 x31 x32 x33 x34 x35 x36 : Option Ob} : sO (x0 :: x1 :: x2 :: x3 :: x4 :: x5 :: x6 :: x7 :: x8 :: x9 :: x10 :: x11 :: x12 :: x13 :: x14 :: x15 :: x16 :: x17 :: x18 :: x19 :: x20 :: x21 :: x22 :: x23 :: x24 :: x25 :: x26 :: x27 :: x28 :: x29 :: x30 :: x31 :: x32 :: x33 :: x34 :: x35 :: x36 :: q) 36 y = x0 :: x1 :: x2 :: x3 :: x4 :: x5 :: x6 :: x7 :: x8 :: x9 :: x10 :: x11 :: x12 :: x13 :: x14 :: x15 :: x16 :: x17 :: x18 :: x19 :: x20 :: x21 :: x22 :: x23 :: x24 :: x25 :: x26 :: x27 :: x28 :: x29 :: x30 :: x31 :: x32 :: x33 :: x34 :: x35 :: y :: q := rfl
@[simp] theorem nX36 : nX 36 = [.und, .und, .und, .und, .und, .und, .und, .und, .und, .und, .und, .und, .und, .und, .und, .und, .und, .und, .und, .und, .und, .und, .und, .und, .und, .und, .und, .und, .und, .und, .und, .und, .und, .und, .und, .und] := rfl
@[simp] theorem nO36 : nO 36 = [none, none, none, none, none, none, none, none, none, none, none, none, none, none, none, none, none, none, none, none, none, none, none, none, none, none, none, none, none, none, none, none, none, none, none, none] := rfl
@[simp] theorem gX37 {x0 x1 x2 x3 x4 x5 x6 x7 x8 x9 x10 x11 x12 x13 x14 x15 x16 x17 x18 x19 x20 x21 x22 x23 x24 x25 x26 x27 x28 x29 x30 x31 x32 x33 x34 x35 x36 x37 : X} : gX (x0 :: x1 :: x2 :: x3 :: x4 :: x5 :: x6 :: x7 :: x8 :: x9 :: x10 :: x11 :: x12 :: x13 :: x14 :: x15 :: x16 :: x17 :: x18 :: x19 :: x20 :: x21 :: x22 :: x23 :: x24 :: x25 :: x26 :: x27 :: x28 :: x29 :: x30 :: x31 :: x32 :: x33 :: x34 :: x35 :: x36 :: x37 :: r) 37 = x37 := rfl
@[simp] theorem sX37 {x0 x1 x2 x3 x4 x5 x6 x7 x8 x9 x10 x11 x12 x13 x14 x15 x16 x17 x18 x19 x20 x21 x22 x23 x24 x25 x26 x27 x28 x29 x30 x31 x32 x33 x34 x35 x36 x37 : X} : sX (x0 :: x1 :: x2 :: x3 :: x4 :: x5 :: x6 :: x7 :: x8 :: x9 :: x10 :: x11 :: x12 :: x13 :: x14 :: x15 :: x16 :: x17 :: x18 :: x19 :: x20 :: x21 :: x22 :: x23 :: x24 :: x25 :: x26 :: x27 :: x28 :: x29 :: x30 :: x31 :: x32 :: x33 :: x34 :: x35 :: x36 :: x37 :: r) 37 z = x0 :: x1 :: x2 :: x3 :: x4 :: x5 :: x6 :: x7 :: x8 :: x9 :: x10 :: x11 :: x12 :: x13 :: x14 :: x15 :: x16 :: x17 :: x18 :: x19 :: x20 :: x21 :: x22 :: x23 :: x24 :: x25 :: x26 :: x27 :: x28 :: x29 :: x30 :: x31 :: x32 :: x33 :: x34 :: x35 :: x36 :: z :: r := rfl
@[simp] theorem gO37 {x0 x1 x2 x3 x4 x5 x6 x7 x8 x9 x10 x11 x12 x13 x14 x15 x16 x17 x18 x19 x20 x21 x22 x23 x24 x25 x26 x27 x28 x29 x30 x31 x32 x33 x34 x35 x36 x37 : Option Ob} : gO (x0 :: x1 :: x2 :: x3 :: x4 :: x5 :: x6 :: x7 :: x8 :: x9 :: x10 :: x11 :: x12 :: x13 :: x14 :: x15 :: x16 :: x17 :: x18 :: x19 :: x20 :: x21 :: x22 :: x23 :: x24 :: x25 :: x26 :: x27 :: x28 :: x29 :: x30 :: x31 :: x32 :: x33 :: x34 :: x35 :: x36 :: x37 :: q) 37 = x37 := rfl
@[simp] theorem sO37 {x0 x1 x2 x3 x4 x5 x6 x7 x8 x9 x10 x11 x12 x13 x14 x15 x16 x17 x18 x19 x20 x21 x22 x23 x24 x25 x26 x27 x28 x29 x30 x31 x32 x33 x34 x35 x36 x37 : Option Ob} : sO (x0 :: x1 :: x2 :: x3 :: x4 :: x5 :: x6 :: x7 :: x8 :: x9 :: x10 :: x11 :: x12 :: x13 :: x14 :: x15 :: x16 :: x17 :: x18 :: x19 :: x20 :: x21 :: x22 :: x23 :: x24 :: x25 :: x26 :: x27 :: x28 :: x29 :: x30 :: x31 :: x32 :: x33 :: x34 :: x35 :: x36 :: x37 :: q) 37 y = x0 :: x1 :: x2 :: x3 :: x4 :: x5 :: x6 :: x7 :: x8 :: x9 :: x10 :: x11 :: x12 :: x13 :: x14 :: x15 :: x16 :: x17 :: x18 :: x19 :: x20 :: x21 :: x22 :: x23 :: x24 :: x25 :: x26 :: x27 :: x28 :: x29 :: x30 :: x31 :: x32 :: x33 :: x34 :: x35 :: x36 :: y :: q := rfl
@[simp] theorem nX37 : nX 37 = [.und, .und, .und, .und, .und, .und, .und, .und, .und, .und, .und, .und, .und, .und, .und, .und, .und, .und, .und, .und, .und, .und, .und, .und, .und, .und, .und, .und, .und, .und, .und, .und, .und, .und, .und, .und, .und] := rfl
@[simp] theorem nO37 : nO 37 = [none, none, none, none, none, none, none, none, none, none, none, none, none, none, none, none, none, none, none, none, none, none, none, none, none, none, none, none, none, none, none, none, none, none, none, none, none] := rfl
@[simp] theorem gX38 {x0 x1 x2 x3 x4 x5 x6 x7 x8 x9 x10 x11 x12 x13 x14 x15 x16 x17 x18 x19 x20 x21 x22 x23 x24 x25 x26 x27 x28 x29 x30 x31 x32 x33 x34 x35 x36 x37 x38 : X} : gX (x0 :: x1 :: x2 :: x3 :: x4 :: x5 :: x6 :: x7 :: x8 :: x9 :: x10 :: x11 :: x12 :: x13 :: x14 :: x15 :: x16 :: x17 :: x18 :: x19 :: x20 :: x21 :: x22 :: x23 :: x24 :: x25 :: x26 :: x27 :: x28 :: x29 :: x30 :: x31 :: x32 :: x33 :: x34 :: x35 :: x36 :: x37 :: x38 :: r) 38 = x38 := rfl
@[simp] theorem sX38 {x0 x1 x2 x3 x4 x5 x6 x7 x8 x9 x10 x11 x12 x13 x14 x15 x16 x17 x18 x19 x20 x21 x22 x23 x24 x25 x26 x27 x28 x29 x30 x31 x32 x33 x34 x35 x36 x37 x38 : X} : sX (x0 :: x1 :: x2 :: x3 :: x4 :: x5 :: x6 :: x7 :: x8 :: x9 :: x10 :: x11 :: x12 :: x13 :: x14 :: x15 :: x16 :: x17 :: x18 :: x19 :: x20 :: x21 :: x22 :: x23 :: x24 :: x25 :: x26 :: x27 :: x28 :: x29 :: x30 :: x31 :: x32 :: x33 :: x34 :: x35 :: x36 :: x37 :: x38 :: r) 38 z = x0 :: x1 :: x2 :: x3 :: x4 :: x5 :: x6 :: x7 :: x8 :: x9 :: x10 :: x11 :: x12 :: x13 :: x14 :: x15 :: x16 :: x17 :: x18 :: x19 :: x20 :: x21 :: x22 :: x23 :: x24 :: x25 :: x26 :: x27 :: x28 :: x29 :: x30 :: x31 :: x32 :: x33 :: x34 :: x35 :: x36 :: x37 :: z :: r := rfl
@[simp] theorem gO38 {x0 x1 x2 x3 x4 x5 x6 x7 x8 x9 x10 x11 x12 x13 x14 x15 x16 x17 x18 x19 x20 x21 x22 x23 x24 x25 x26 x27 x28 x29 x30 x31 x32 x33 x34 x35 x36 x37 x38 : Option Ob} : gO (x0 :: x1 :: x2 :: x3 :: x4 :: x5 :: x6 :: x7 :: x8 :: x9 :: x10 :: x11 :: x12 :: x13 :: x14 :: x15 :: x16 :: x17 :: x18 :: x19 :: x20 :: x21 :: x22 :: x23 :: x24 :: x25 :: x26 :: x27 :: x28 :: x29 :: x30 :: x31 :: x32 :: x33 :: x34 :: x35 :: x36 :: x37 :: x38 :: q) 38 = x38 := rfl
@[simp] theorem sO38 {x0 x1 x2 x3 x4 x5 x6 x7 x8 x9 x10 x11 x12 x13 x14 x15 x16 x17 x18 x19 x20 x21 x22 x23 x24 x25 x26 x27 x28 x29 x30 x31 x32 x33 x34 x35 x36 x37 x38 : Option Ob} : sO (x0 :: x1 :: x2 :: x3 :: x4 :: x5 :: x6 :: x7 :: x8 :: x9 :: x10 :: x11 :: x12 :: x13 :: x14 :: x15 :: x16 :: x17 :: x18 :: x19 :: x20 :: x21 :: x22 :: x23 :: x24 :: x25 :: x26 :: x27 :: x28 :: x29 :: x30 :: x31 :: x32 :: x33 :: x34 :: x35 :: x36 :: x37 :: x38 :: q) 38 y = x0 :: x1 :: x2 :: x3 :: x4 :: x5 :: x6 :: x7 :: x8 :: x9 :: x10 :: x11 :: x12 :: x13 :: x14 :: x15 :: x16 :: x17 :: x18 :: x19 :: x20 :: x21 :: x22 :: x23 :: x24 :: x25 :: x26 :: x27 :: x28 :: x29 :: x30 :: x31 :: x32 :: x33 :: x34 :: x35 :: x36 :: x37 :: y :: q := rfl
@[simp] theorem nX38 : nX 38 = [.und, .und, .und, .und, .und, .und, .und, .und, .und, .und, .und, .und, .und, .und, .und, .und, .und, .und, .und, .und, .und, .und, .und, .und, .und, .und, .und, .und, .und, .und, .und, .und, .und, .und, .und, .und, .und, .und] := rfl
@[simp] theorem nO38 : nO 38 = [none, none, none, none, none, none, none, none, none, none, none, none, none, none, none, none, none, none, none, none, none, none, none, none, none, none, none, none, none, none, none, none, none, none, none, none, none, none] := rfl
@[simp] theorem gX39 {x0 x1 x2 x3 x4 x5 x6 x7 x8 x9 x10 x11 x12 x13 x14 x15 x16 x17 x18 x19 x20 x21 x22 x23 x24 x25 x26 x27 x28 x29 x30 x31 x32 x33 x34 x35 x36 x37 x38 x39 : X} : gX (x0 :: x1 :: x2 :: x3 :: x4 :: x5 :: x6 :: x7 :: x8 :: x9 :: x10 :: x11 :: x12 :: x13 :: x14 :: x15 :: x16 :: x17 :: x18 :: x19 :: x20 :: x21 :: x22 :: x23 :: x24 :: x25 :: x26 :: x27 :: x28 :: x29 :: x30 :: x31 :: x32 :: x33 :: x34 :: x35 :: x36 :: x37 :: x38 :: x39 :: r) 39 = x39 := rfl
@[simp] theorem sX39 {x0 x1 x2 x3 x4 x5 x6 x7 x8 x9 x10 x11 x12 x13 x14 x15 x16 x17 x18 x19 x20 x21 x22 x23 x24 x25 x26 x27 x28 x29 x30 x31 x32 x33 x34 x35 x36 x37 x38 x39 : X} : sX (x0 :: x1 :: x2 :: x3 :: x4 :: x5 :: x6 :: x7 :: x8 :: x9 :: x10 :: x11 :: x12 :: x13 :: x14 :: x15 :: x16 :: x17 :: x18 :: x19 :: x20 :: x21 :: x22 :: x23 :: x24 :: x25 :: x26 :: x27 :: x28 :: x29 :: x30 :: x31 :: x32 :: x33 :: x34 :: x35 :: x36 :: x37 :: x38 :: x39 :: r) 39 z = x0 :: x1 :: x2 :: x3 :: x4 :: x5 :: x6 :: x7 :: x8 :: x9 :: x10 :: x11 :: x12 :: x13 :: x14 :: x15 :: x16 :: x17 :: x18 :: x19 :: x20 :: x21 :: x22 :: x23 :: x24 :: x25 :: x26 :: x27 :: x28 :: x29 :: x30 :: x31 :: x32 :: x33 :: x34 :: x35 :: x36 :: x37 :: x38 :: z :: r := rfl
@[simp] theorem gO39 {x0 x1 x2 x3 x4 x5 x6 x7 x8 x9 x10 x11 x12 x13 x14 x15 x16 x17 x18 x19 x20 x21 x22 x23 x24 x25 x26 x27 x28 x29 x30 x31 x32 x33 x34 x35 x36 x37 x38 x39 : Option Ob} : gO (x0 :: x1 :: x2 :: x3 :: x4 :: x5 :: x6 :: x7 :: x8 :: x9 :: x10 :: x11 :: x12 :: x13 :: x14 :: x15 :: x16 :: x17 :: x18 :: x19 :: x20 :: x21 :: x22 :: x23 :: x24 :: x25 :: x26 :: x27 :: x28 :: x29 :: x30 :: x31 :: x32 :: x33 :: x34 :: x35 :: x36 :: x37 :: x38 :: x39 :: q) 39 = x39 := rfl
@[simp] theorem sO39 {x0 x1 x2 x3 x4 x5 x6 x7 x8 x9 x10 x11 x12 x13 x14 x15 x16 x17 x18 x19 x20 x21 x22 x23 x24 x25 x26 x27 x28 x29 x30 x31 x32 x33 x34 x35 x36 x37 x38 x39 : Option Ob} : sO (x0 :: x1 :: x2 :: x3 :: x4 :: x5 :: x6 :: x7 :: x8 :: x9 :: x10 :: x11 :: x12 :: x13 :: x14 :: x15 :: x16 :: x17 :: x18 :: x19 :: x20 :: x21 :: x22 :: x23 :: x24 :: x25 :: x26 :: x27 :: x28 :: x29 :: x30 :: x31 :: x32 :: x33 :: x34 :: x35 :: x36 :: x37 :: x38 :: x39 :: q) 39 y = x0 :: x1 :: x2 :: x3 :: x4 :: x5 :: x6 :: x7 :: x8 :: x9 :: x10 :: x11 :: x12 :: x13 :: x14 :: x15 :: x16 :: x17 :: x18 :: x19 :: x20 :: x21 :: x22 :: x23 :: x24 :: x25 :: x26 :: x27 :: x28 :: x29 :: x30 :: x31 :: x32 :: x33 :: x34 :: x35 :: x36 :: x37 :: x38 :: y :: q := rfl
@[simp] theorem nX39 : nX 39 = [.und, .und, .und, .und, .und, .und, .und, .und, .und, .und, .und, .und, .und, .und, .und, .und, .und, .und, .und, .und, .und, .und, .und, .und, .und, .und, .und, .und, .und, .und, .und, .und, .und, .und, .und, .und, .und, .und, .und] := rfl
@[simp] theorem nO39 : nO 39 = [none, none, none, none, none, none, none, none, none, none, none, none, none, none, none, none, none, none, none, none, none, none, none, none, none, none, none, none, none, none, none, none, none, none, none, none, none, none, none] := rfl
@[simp] theorem gX40 {x0 x1 x2 x3 x4 x5 x6 x7 x8 x9 x10 x11 x12 x13 x14 x15 x16 x17 x18 x19 x20 x21 x22 x23 x24 x25 x26 x27 x28 x29 x30 x31 x32 x33 x34 x35 x36 x37 x38 x39 x40 : X} : gX (x0 :: x1 :: x2 :: x3 :: x4 :: x5 :: x6 :: x7 :: x8 :: x9 :: x10 :: x11 :: x12 :: x13 :: x14 :: x15 :: x16 :: x17 :: x18 :: x19 :: x20 :: x21 :: x22 :: x23 :: x24 :: x25 :: x26 :: x27 :: x28 :: x29 :: x30 :: x31 :: x32 :: x33 :: x34 :: x35 :: x36 :: x37 :: x38 :: x39 :: x40 :: r) 40 = x40 := rfl
@[simp] theorem sX40 {x0 x1 x2 x3 x4 x5 x6 x7 x8 x9 x10 x11 x12 x13 x14 x15 x16 x17 x18 x19 x20 x21 x22 x23 x24 x25 x26 x27 x28 x29 x30 x31 x32 x33 x34 x35 x36 x37 x38 x39 x40 : X} : sX (x0 :: x1 :: x2 :: x3 :: x4 :: x5 :: x6 :: x7 :: x8 :: x9 :: x10 :: x11 :: x12 :: x13 :: x14 :: x15 :: x16 :: x17 :: x18 :: x19 :: x20 :: x21 :: x22 :: x23 :: x24 :: x25 :: x26 :: x27 :: x28 :: x29 :: x30 :: x31 :: x32 :: x33 :: x34 :: x35 :: x36 :: x37 :: x38 :: x39 :: x40 :: r) 40 z = x0 :: x1 :: x2 :: x3 :: x4 :: x5 :: x6 :: x7 :: x8 :: x9 :: x10 :: x11 :: x12 :: x13 :: x14 :: x15 :: x16 :: x17 :: x18 :: x19 :: x20 :: x21 :: x22 :: x23 :: x24 :: x25 :: x26 :: x27 :: x28 :: x29 :: x30 :: x31 :: x32 :: x33 :: x34 :: x35 :: x36 :: x37 :: x38 :: x39 :: z :: r := rfl
@[simp] theorem gO40 {x0 x1 x2 x3 x4 x5 x6 x7 x8 x9 x10 x11 x12 x13 x14 x15 x16 x17 x18 x19 x20 x21 x22 x23 x24 x25 x26 x27 x28 x29 x30 x31 x32 x33 x34 x35 x36 x37 x38 x39 x40 : Option Ob} : gO (x0 :: x1 :: x2 :: x3 :: x4 :: x5 :: x6 :: x7 :: x8 :: x9 :: x10 :: x11 :: x12 :: x13 :: x14 :: x15 :: x16 :: x17 :: x18 :: x19 :: x20 :: x21 :: x22 :: x23 :: x24 :: x25 :: x26 :: x27 :: x28 :: x29 :: x30 :: x31 :: x32 :: x33 :: x34 :: x35 :: x36 :: x37 :: x38 :: x39 :: x40 :: q) 40 = x40 := rfl
@[simp] theorem sO40 {x0 x1 x2 x3 x4 x5 x6 x7 x8 x9 x10 x11 x12 x13 x14 x15 x16 x17 x18 x19 x20 x21 x22 x23 x24 x25 x26 x27 x28 x29 x30 x31 x32 x33 x34 x35 x36 x37 x38 x39 x40 : Option Ob} : sO (x0 :: x1 :: x2 :: x3 :: x4 :: x5 :: x6 :: x7 :: x8 :: x9 :: x10 :: x11 :: x12 :: x13 :: x14 :: x15 :: x16 :: x17 :: x18 :: x19 :: x20 :: x21 :: x22 :: x23 :: x24 :: x25 :: x26 :: x27 :: x28 :: x29 :: x30 :: x31 :: x32 :: x33 :: x34 :: x35 :: x36 :: x37 :: x38 :: x39 :: x40 :: q) 40 y = x0 :: x1 :: x2 :: x3 :: x4 :: x5 :: x6 :: x7 :: x8 :: x9 :: x10 :: x11 :: x12 :: x13 :: x14 :: x15 :: x16 :: x17 :: x18 :: x19 :: x20 :: x21 :: x22 :: x23 :: x24 :: x25 :: x26 :: x27 :: x28 :: x29 :: x30 :: x31 :: x32 :: x33 :: x34 :: x35 :: x36 :: x37 :: x38 :: x39 :: y :: q := rfl
@[simp] theorem nX40 : nX 40 = [.und, .und, .und, .und, .und, .und, .und, .und, .und, .und, .und, .und, .und, .und, .und, .und, .und, .und, .und, .und, .und, .und, .und, .und, .und, .und, .und, .und, .und, .und, .und, .und, .und, .und, .und, .und, .und, .und, .und, .und] := rfl
@[simp] theorem nO40 : nO 40 = [none, none, none, none, none, none, none, none, none, none, none, none, none, none, none, none, none, none, none, none, none, none, none, none, none, none, none, none, none, none, none, none, none, none, none, none, none, none, none, none] := rfl
@[simp] theorem gX41 {x0 x1 x2 x3 x4 x5 x6 x7 x8 x9 x10 x11 x12 x13 x14 x15 x16 x17 x18 x19 x20 x21 x22 x23 x24 x25 x26 x27 x28 x29 x30 x31 x32 x33 x34 x35 x36 x37 x38 x39 x40 x41 : X} : gX (x0 :: x1 :: x2 :: x3 :: x4 :: x5 :: x6 :: x7 :: x8 :: x9 :: x10 :: x11 :: x12 :: x13 :: x14 :: x15 :: x16 :: x17 :: x18 :: x19 :: x20 :: x21 :: x22 :: x23 :: x24 :: x25 :: x26 :: x27 :: x28 :: x29 :: x30 :: x31 :: x32 :: x33 :: x34 :: x35 :: x36 :: x37 :: x38 :: x39 :: x40 :: x41 :: r) 41 = x41 := rfl
@[simp] theorem sX41 {x0 x1 x2 x3 x4 x5 x6 x7 x8 x9 x10 x11 x12 x13 x14 x15 x16 x17 x18 x19 x20 x21 x22 x23 x24 x25 x26 x27 x28 x29 x30 x31 x32 x33 x34 x35 x36 x37 x38 x39 x40 x41 : X} : sX (x0 :: x1 :: x2 :: x3 :: x4 :: x5 :: x6 :: x7 :: x8 :: x9 :: x10 :: x11 :: x12 :: x13 :: x14 :: x15 :: x16 :: x17 :: x18 :: x19 :: x20 :: x21 :: x22 :: x23 :: x24 :: x25 :: x26 :: x27 :: x28 :: x29 :: x30 :: x31 :: x32 :: x33 :: x34 :: x35 :: x36 :: x37 :: x38 :: x39 :: x40 :: x41 :: r) 41 z = x0 :: x1 :: x2 :: x3 :: x4 :: x5 :: x6 :: x7 :: x8 :: x9 :: x10 :: x11 :: x12 :: x13 :: x14 :: x15 :: x16 :: x17 :: x18 :: x19 :: x20 :: x21 :: x22 :: x23 :: x24 :: x25 :: x26 :: x27 :: x28 :: x29 :: x30 :: x31 :: x32 :: x33 :: x34 :: x35 :: x36 :: x37 :: x38 :: x39 :: x40 :: z :: r := rfl
@[simp] theorem gO41 {x0 x1 x2 x3 x4 x5 x6 x7 x8 x9 x10 x11 x12 x13 x14 x15 x16 x17 x18 x19 x20 x21 x22 x23 x24 x25 x26 x27 x28 x29 x30 x31 x32 x33 x34 x35 x36 x37 x38 x39 x40 x41 : Option Ob} : gO (x0 :: x1 :: x2 :: x3 :: x4 :: x5 :: x6 :: x7 :: x8 :: x9 :: x10 :: x11 :: x12 :: x13 :: x14 :: x15 :: x16 :: x17 :: x18 :: x19 :: x20 :: x21 :: x22 :: x23 :: x24 :: x25 :: x26 :: x27 :: x28 :: x29 :: x30 :: x31 :: x32 :: x33 :: x34 :: x35 :: x36 :: x37 :: x38 :: x39 :: x40 :: x41 :: q) 41 = x41 := rfl
@[simp] theorem sO41 {x0 x1 x2 x3 x4 x5 x6 x7 x8 x9 x10 x11 x12 x13 x14 x15 x16 x17 x18 x19 x20 x21 x22 x23 x24 x25 x26 x27 x28 x29 x30 x31 x32 x33 x34 x35 x36 x37 x38 x39 x40 x41 : Option Ob} : sO (x0 :: x1 :: x2 :: x3 :: x4 :: x5 :: x6 :: x7 :: x8 :: x9 :: x10 :: x11 :: x12 :: x13 :: x14 :: x15 :: x16 :: x17 :: x18 :: x19 :: x20 :: x21 :: x22 :: x23 :: x24 :: x25 :: x26 :: x27 :: x28 :: x29 :: x30 :: x31 :: x32 :: x33 :: x34 :: x35 :: x36 :: x37 :: x38 :: x39 :: x40 :: x41 :: q) 41 y = x0 :: x1 :: x2 :: x3 :: x4 :: x5 :: x6 :: x7 :: x8 :: x9 :: x10 :: x11 :: x12 :: x13 :: x14 :: x15 :: x16 :: x17 :: x18 :: x19 :: x20 :: x21 :: x22 :: x23 :: x24 :: x25 :: x26 :: x27 :: x28 :: x29 :: x30 :: x31 :: x32 :: x33 :: x34 :: x35 :: x36 :: x37 :: x38 :: x39 :: x40 :: y :: q := rfl
@[simp] theorem nX41 : nX 41 = [.und, .und, .und, .und, .und, .und, .und, .und, .und, .und, .und, .und, .und, .und, .und, .und, .und, .und, .und, .und, .und, .und, .und, .und, .und, .und, .und, .und, .und, .und, .und, .und, .und, .und, .und, .und, .und, .und, .und, .und, .und] := rfl
@[simp] theorem nO41 : nO 41 = [none, none, none, none, none, none, none, none, none, none, none, none, none, none, none, none, none, none, none, none, none, none, none, none, none, none, none, none, none, none, none, none, none, none, none, none, none, none, none, none, none] := rfl
@[simp] theorem gX42 {x0 x1 x2 x3 x4 x5 x6 x7 x8 x9 x10 x11 x12 x13 x14 x15 x16 x17 x18 x19 x20 x21 x22 x23 x24 x25 x26 x27 x28 x29 x30 x31 x32 x33 x34 x35 x36 x37 x38 x39 x40 x41 x42 : X} : gX (x0 :: x1 :: x2 :: x3 :: x4 :: x5 :: x6 :: x7 :: x8 :: x9 :: x10 :: x11 :: x12 :: x13 :: x14 :: x15 :: x16 :: x17 :: x18 :: x19 :: x20 :: x21 :: x22 :: x23 :: x24 :: x25 :: x26 :: x27 :: x28 :: x29 :: x30 :: x31 :: x32 :: x33 :: x34 :: x35 :: x36 :: x37 :: x38 :: x39 :: x40 :: x41 :: x42 :: r) 42 = x42 := rfl
@[simp] theorem sX42 {x0 x1 x2 x3 x4 x5 x6 x7 x8 x9 x10 x11 x12 x13 x14 x15 x16 x17 x18 x19 x20 x21 x22 x23 x24 x25 x26 x27 x28 x29 x30 x31 x32 x33 x34 x35 x36 x37 x38 x39 x40 x41 x42 : X} : sX (x0 :: x1 :: x2 :: x3 :: x4 :: x5 :: x6 :: x7 :: x8 :: x9 :: x10 :: x11 :: x12 :: x13 :: x14 :: x15 :: x16 :: x17 :: x18 :: x19 :: x20 :: x21 :: x22 :: x23 :: x24 :: x25 :: x26 :: x27 :: x28 :: x29 :: x30 :: x31 :: x32 :: x33 :: x34 :: x35 :: x36 :: x37 :: x38 :: x39 :: x40 :: x41 :: x42 :: r) 42 z = x0 :: x1 :: x2 :: x3 :: x4 :: x5 :: x6 :: x7 :: x8 :: x9 :: x10 :: x11 :: x12 :: x13 :: x14 :: x15 :: x16 :: x17 :: x18 :: x19 :: x20 :: x21 :: x22 :: x23 :: x24 :: x25 :: x26 :: x27 :: x28 :: x29 :: x30 :: x31 :: x32 :: x33 :: x34 :: x35 :: x36 :: x37 :: x38 :: x39 :: x40 :: x41 :: z :: r := rfl
@[simp] theorem gO42 {x0 x1 x2 x3 x4 x5 x6 x7 x8 x9 x10 x11 x12 x13 x14 x15 x16 x17 x18 x19 x20 x21 x22 x23 x24 x25 x26 x27 x28 x29 x30 x31 x32 x33 x34 x35 x36 x37 x38 x39 x40 x41 x42 : Option Ob} : gO (x0 :: x1 :: x2 :: x3 :: x4 :: x5 :: x6 :: x7 :: x8 :: x9 :: x10 :: x11 :: x12 :: x13 :: x14 :: x15 :: x16 :: x17 :: x18 :: x19 :: x20 :: x21 :: x22 :: x23 :: x24 :: x25 :: x26 :: x27 :: x28 :: x29 :: x30 :: x31 :: x32 :: x33 :: x34 :: x35 :: x36 :: x37 :: x38 :: x39 :: x40 :: x41 :: x42 :: q) 42 = x42 := rfl
@[simp] theorem sO42 {x0 x1 x2 x3 x4 x5 x6 x7 x8 x9 x10 x11 x12 x13 x14 x15 x16 x17 x18 x19 x20 x21 x22 x23 x24 x25 x26 x27 x28 x29 x30 x31 x32 x33 x34 x35 x36 x37 x38 x39 x40 x41 x42 : Option Ob} : sO (x0 :: x1 :: x2 :: x3 :: x4 :: x5 :: x6 :: x7 :: x8 :: x9 :: x10 :: x11 :: x12 :: x13 :: x14 :: x15 :: x16 :: x17 :: x18 :: x19 :: x20 :: x21 :: x22 :: x23 :: x24 :: x25 :: x26 :: x27 :: x28 :: x29 :: x30 :: x31 :: x32 :: x33 :: x34 :: x35 :: x36 :: x37 :: x38 :: x39 :: x40 :: x41 :: x42 :: q) 42 y = x0 :: x1 :: x2 :: x3 :: x4 :: x5 :: x6 :: x7 :: x8 :: x9 :: x10 :: x11 :: x12 :: x13 :: x14 :: x15 :: x16 :: x17 :: x18 :: x19 :: x20 :: x21 :: x22 :: x23 :: x24 :: x25 :: x26 :: x27 :: x28 :: x29 :: x30 :: x31 :: x32 :: x33 :: x34 :: x35 :: x36 :: x37 :: x38 :: x39 :: x40 :: x41 :: y :: q := rfl
@[simp] theorem nX42 : nX 42 = [.und, .und, .und, .und, .und, .und, .und, .und, .und, .und, .und, .und, .und, .und, .und, .und, .und, .und, .und, .und, .und, .und, .und, .und, .und, .und, .und, .und, .und, .und, .und, .und, .und, .und, .und, .und, .und, .und, .und, .und, .und, .und] := rfl
@[simp] theorem nO42 : nO 42 = [none, none, none, none, none, none, none, none, none, none, none, none, none, none, none, none, none, none, none, none, none, none, none, none, none, none, none, none, none, none, none, none, none, none, none, none, none, none, none, none, none, none] := rfl
@[simp] theorem gX43 {x0 x1 x2 x3 x4 x5 x6 x7 x8 x9 x10 x11 x12 x13 x14 x15 x16 x17 x18 x19 x20 x21 x22 x23 x24 x25 x26 x27 x28 x29 x30 x31 x32 x33 x34 x35 x36 x37 x38 x39 x40 x41 x42 x43 : X} : gX (x0 :: x1 :: x2 :: x3 :: x4 :: x5 :: x6 :: x7 :: x8 :: x9 :: x10 :: x11 :: x12 :: x13 :: x14 :: x15 :: x16 :: x17 :: x18 :: x19 :: x20 :: x21 :: x22 :: x23 :: x24 :: x25 :: x26 :: x27 :: x28 :: x29 :: x30 :: x31 :: x32 :: x33 :: x34 :: x35 :: x36 :: x37 :: x38 :: x39 :: x40 :: x41 :: x42 :: x43 :: r) 43 = x43 := rfl
@[simp] theorem sX43 {x0 x1 x2 x3 x4 x5 x6 x7 x8 x9 x10 x11 x12 x13 x14 x15 x16 x17 x18 x19 x20 x21 x22 x23 x24 x25 x26 x27 x28 x29 x30 x31 x32 x33 x34 x35 x36 x37 x38 x39 x40 x41 x42 x43 : X} : sX (x0 :: x1 :: x2 :: x3 :: x4 :: x5 :: x6 :: x7 :: x8 :: x9 :: x10 :: x11 :: x12 :: x13 :: x14 :: x15 :: x16 :: x17 :: x18 :: x19 :: x20 :: x21 :: x22 :: x23 :: x24 :: x25 :: x26 :: x27 :: x28 :: x29 :: x30 :: x31 :: x32 :: x33 :: x34 :: x35 :: x36 :: x37 :: x38 :: x39 :: x40 :: x41 :: x42 :: x43 :: r) 43 z = x0 :: x1 :: x2 :: x3 :: x4 :: x5 :: x6 :: x7 :: x8 :: x9 :: x10 :: x11 :: x12 :: x13 :: x14 :: x15 :: x16 :: x17 :: x18 :: x19 :: x20 :: x21 :: x22 :: x23 :: x24 :: x25 :: x26 :: x27 :: x28 :: x29 :: x30 :: x31 :: x32 :: x33 :: x34 :: x35 :: x36 :: x37 :: x38 :: x39 :: x40 :: x41 :: x42 :: z :: r := rfl
@[simp] theorem gO43 {x0 x1 x2 x3 x4 x5 x6 x7 x8 x9 x10 x11 x12 x13 x14 x15 x16 x17 x18 x19 x20 x21 x22 x23 x24 x25 x26 x27 x28 x29 x30 x31 x32 x33 x34 x35 x36 x37 x38 x39 x40 x41 x42 x43 : Option Ob} : gO (x0 :: x1 :: x2 :: x3 :: x4 :: x5 :: x6 :: x7 :: x8 :: x9 :: x10 :: x11 :: x12 :: x13 :: x14 :: x15 :: x16 :: x17 :: x18 :: x19 :: x20 :: x21 :: x22 :: x23 :: x24 :: x25 :: x26 :: x27 :: x28 :: x29 :: x30 :: x31 :: x32 :: x33 :: x34 :: x35 :: x36 :: x37 :: x38 :: x39 :: x40 :: x41 :: x42 :: x43 :: q) 43 = x43 := rfl
@[simp] theorem sO43 {x0 x1 x2 x3 x4 x5 x6 x7 x8 x9 x10 x11 x12 x13 x14 x15 x16 x17 x18 x19 x20 x21 x22 x23 x24 x25 x26 x27 x28 x29 x30 x31 x32 x33 x34 x35 x36 x37 x38 x39 x40 x41 x42 x43 : Option Ob} : sO (x0 :: x1 :: x2 :: x3 :: x4 :: x5 :: x6 :: x7 :: x8 :: x9 :: x10 :: x11 :: x12 :: x13 :: x14 :: x15 :: x16 :: x17 :: x18 :: x19 :: x20 :: x21 :: x22 :: x23 :: x24 :: x25 :: x26 :: x27 :: x28 :: x29 :: x30 :: x31 :: x32 :: x33 :: x34 :: x35 :: x36 :: x37 :: x38 :: x39 :: x40 :: x41 :: x42 :: x43 :: q) 43 y = x0 :: x1 :: x2 :: x3 :: x4 :: x5 :: x6 :: x7 :: x8 :: x9 :: x10 :: x11 :: x12 :: x13 :: x14 :: x15 :: x16 :: x17 :: x18 :: x19 :: x20 :: x21 :: x22 :: x23 :: x24 :: x25 :: x26 :: x27 :: x28 :: x29 :: x30 :: x31 :: x32 :: x33 :: x34 :: x35 :: x36 :: x37 :: x38 :: x39 :: x40 :: x41 :: x42 :: y :: q := rfl
@[simp] theorem nX43 : nX 43 = [.und, .und, .und, .und, .und, .und, .und, .und, .und, .und, .und, .und, .und, .und, .und, .und, .und, .und, .und, .und, .und, .und, .und, .und, .und, .und, .und, .und, .und, .und, .und, .und, .und, .und, .und, .und, .und, .und, .und, .und, .und, .und, .und] := rfl
@[simp] theorem nO43 : nO 43 = [none, none, none, none, none, none, none, none, none, none, none, none, none, none, none, none, none, none, none, none, none, none, none, none, none, none, none, none, none, none, none, none, none, none, none, none, none, none, none, none, none, none, none] := rfl
@[simp] theorem gX44 {x0 x1 x2 x3 x4 x5 x6 x7 x8 x9 x10 x11 x12 x13 x14 x15 x16 x17 x18 x19 x20 x21 x22 x23 x24 x25 x26 x27 x28 x29 x30 x31 x32 x33 x34 x35 x36 x37 x38 x39 x40 x41 x42 x43 x44 : X} : gX (x0 :: x1 :: x2 :: x3 :: x4 :: x5 :: x6 :: x7 :: x8 :: x9 :: x10 :: x11 :: x12 :: x13 :: x14 :: x15 :: x16 :: x17 :: x18 :: x19 :: x20 :: x21 :: x22 :: x23 :: x24 :: x25 :: x26 :: x27 :: x28 :: x29 :: x30 :: x31 :: x32 :: x33 :: x34 :: x35 :: x36 :: x37 :: x38 :: x39 :: x40 :: x41 :: x42 :: x43 :: x44 :: r) 44 = x44 := rfl
@[simp] theorem sX44 {x0 x1 x2 x3 x4 x5 x6 x7 x8 x9 x10 x11 x12 x13 x14 x15 x16 x17 x18 x19 x20 x21 x22 x23 x24 x25 x26 x27 x28 x29 x30 x31 x32 x33 x34 x35 x36 x37 x38 x39 x40 x41 x42 x43 x44 : X} : sX (x0 :: x1 :: x2 :: x3 :: x4 :: x5 :: x6 :: x7 :: x8 :: x9 :: x10 :: x11 :: x12 :: x13 :: x14 :: x15 :: x16 :: x17 :: x18 :: x19 :: x20 :: x21 :: x22 :: x23 :: x24 :: x25 :: x26 :: x27 :: x28 :: x29 :: x30 :: x31 :: x32 :: x33 :: x34 :: x35 :: x36 :: x37 :: x38 :: x39 :: x40 :: x41 :: x42 :: x43 :: x44 :: r) 44 z = x0 :: x1 :: x2 :: x3 :: x4 :: x5 :: x6 :: x7 :: x8 :: x9 :: x10 :: x11 :: x12 :: x13 :: x14 :: x15 :: x16 :: x17 :: x18 :: x19 :: x20 :: x21 :: x22 :: x23 :: x24 :: x25 :: x26 :: x27 :: x28 :: x29 :: x30 :: x31 :: x32 :: x33 :: x34 :: x35 :: x36 :: x37 :: x38 :: x39 :: x40 :: x41 :: x42 :: x43 :: z :: r := rfl
@[simp] theorem gO44 {x0 x1 x2 x3 x4 x5 x6 x7 x8 x9 x10 x11 x12 x13 x14 x15 x16 x17 x18 x19 x20 x21 x22 x23 x24 x25 x26 x27 x28 x29 x30 x31 x32 x33 x34 x35 x36 x37 x38 x39 x40 x41 x42 x43 x44 : Option Ob} : gO (x0 :: x1 :: x2 :: x3 :: x4 :: x5 :: x6 :: x7 :: x8 :: x9 :: x10 :: x11 :: x12 :: x13 :: x14 :: x15 :: x16 :: x17 :: x18 :: x19 :: x20 :: x21 :: x22 :: x23 :: x24 :: x25 :: x26 :: x27 :: x28 :: x29 :: x30 :: x31 :: x32 :: x33 :: x34 :: x35 :: x36 :: x37 :: x38 :: x39 :: x40 :: x41 :: x42 :: x43 :: x44 :: q) 44 = x44 := rfl
@[simp] theorem sO44 {x0 x1 x2 x3 x4 x5 x6 x7 x8 x9 x10 x11 x12 x13 x14 x15 x16 x17 x18 x19 x20 x21 x22 x23 x24 x25 x26 x27 x28 x29 x30 x31 x32 x33 x34 x35 x36 x37 x38 x39 x40 x41 x42 x43 x44 : Option Ob} : sO (x0 :: x1 :: x2 :: x3 :: x4 :: x5 :: x6 :: x7 :: x8 :: x9 :: x10 :: x11 :: x12 :: x13 :: x14 :: x15 :: x16 :: x17 :: x18 :: x19 :: x20 :: x21 :: x22 :: x23 :: x24 :: x25 :: x26 :: x27 :: x28 :: x29 :: x30 :: x31 :: x32 :: x33 :: x34 :: x35 :: x36 :: x37 :: x38 :: x39 :: x40 :: x41 :: x42 :: x43 :: x44 :: q) 44 y = x0 :: x1 :: x2 :: x3 :: x4 :: x5 :: x6 :: x7 :: x8 :: x9 :: x10 :: x11 :: x12 :: x13 :: x14 :: x15 :: x16 :: x17 :: x18 :: x19 :: x20 :: x21 :: x22 :: x23 :: x24 :: x25 :: x26 :: x27 :: x28 :: x29 :: x30 :: x31 :: x32 :: x33 :: x34 :: x35 :: x36 :: x37 :: x38 :: x39 :: x40 :: x41 :: x42 :: x43 :: y :: q := rfl
@[simp] theorem nX44 : nX 44 = [.und, .und, .und, .und, .und, .und, .und, .und, .und, .und, .und, .und, .und, .und, .und, .und, .und, .und, .und, .und, .und, .und, .und, .und, .und, .und, .und, .und, .und, .und, .und, .und, .und, .und, .und, .und, .und, .und, .und, .und, .und, .und, .und, .und] := rfl
@[simp] theorem nO44 : nO 44 = [none, none, none, none, none, none, none, none, none, none, none, none, none, none, none, none, none, none, none, none, none, none, none, none, none, none, none, none, none, none, none, none, none, none, none, none, none, none, none, none, none, none, none, none] := rfl
@[simp] theorem gX45 {x0 x1 x2 x3 x4 x5 x6 x7 x8 x9 x10 x11 x12 x13 x14 x15 x16 x17 x18 x19 x20 x21 x22 x23 x24 x25 x26 x27 x28 x29 x30 x31 x32 x33 x34 x35 x36 x37 x38 x39 x40 x41 x42 x43 x44 x45 : X} : gX (x0 :: x1 :: x2 :: x3 :: x4 :: x5 :: x6 :: x7 :: x8 :: x9 :: x10 :: x11 :: x12 :: x13 :: x14 :: x15 :: x16 :: x17 :: x18 :: x19 :: x20 :: x21 :: x22 :: x23 :: x24 :: x25 :: x26 :: x27 :: x28 :: x29 :: x30 :: x31 :: x32 :: x33 :: x34 :: x35 :: x36 :: x37 :: x38 :: x39 :: x40 :: x41 :: x42 :: x43 :: x44 :: x45 :: r) 45 = x45 := rfl
@[simp] theorem sX45 {x0 x1 x2 x3 x4 x5 x6 x7 x8 x9 x10 x11 x12 x13 x14 x15 x16 x17 x18 x19 x20 x21 x22 x23 x24 x25 x26 x27 x28 x29 x30 x31 x32 x33 x34 x35 x36 x37 x38 x39 x40 x41 x42 x43 x44 x45 : X} : sX (x0 :: x1 :: x2 :: x3 :: x4 :: x5 :: x6 :: x7 :: x8 :: x9 :: x10 :: x11 :: x12 :: x13 :: x14 :: x15 :: x16 :: x17 :: x18 :: x19 :: x20 :: x21 :: x22 :: x23 :: x24 :: x25 :: x26 :: x27 :: x28 :: x29 :: x30 :: x31 :: x32 :: x33 :: x34 :: x35 :: x36 :: x37 :: x38 :: x39 :: x40 :: x41 :: x42 :: x43 :: x44 :: x45 :: r) 45 z = x0 :: x1 :: x2 :: x3 :: x4 :: x5 :: x6 :: x7 :: x8 :: x9 :: x10 :: x11 :: x12 :: x13 :: x14 :: x15 :: x16 :: x17 :: x18 :: x19 :: x20 :: x21 :: x22 :: x23 :: x24 :: x25 :: x26 :: x27 :: x28 :: x29 :: x30 :: x31 :: x32 :: x33 :: x34 :: x35 :: x36 :: x37 :: x38 :: x39 :: x40 :: x41 :: x42 :: x43 :: x44 :: z :: r := rfl
@[simp] theorem gO45 {x0 x1 x2 x3 x4 x5 x6 x7 x8 x9 x10 x11 x12 x13 x14 x15 x16 x17 x18 x19 x20 x21 x22 x23 x24 x25 x26 x27 x28 x29 x30 x31 x32 x33 x34 x35 x36 x37 x38 x39 x40 x41 x42 x43 x44 x45 : Option Ob} : gO (x0 :: x1 :: x2 :: x3 :: x4 :: x5 :: x6 :: x7 :: x8 :: x9 :: x10 :: x11 :: x12 :: x13 :: x14 :: x15 :: x16 :: x17 :: x18 :: x19 :: x20 :: x21 :: x22 :: x23 :: x24 :: x25 :: x26 :: x27 :: x28 :: x29 :: x30 :: x31 :: x32 :: x33 :: x34 :: x35 :: x36 :: x37 :: x38 :: x39 :: x40 :: x41 :: x42 :: x43 :: x44 :: x45 :: q) 45 = x45 := rfl
@[simp] theorem sO45 {x0 x1 x2 x3 x4 x5 x6 x7 x8 x9 x10 x11 x12 x13 x14 x15 x16 x17 x18 x19 x20 x21 x22 x23 x24 x25 x26 x27 x28 x29 x30 x31 x32 x33 x34 x35 x36 x37 x38 x39 x40 x41 x42 x43 x44 x45 : Option Ob} : sO (x0 :: x1 :: x2 :: x3 :: x4 :: x5 :: x6 :: x7 :: x8 :: x9 :: x10 :: x11 :: x12 :: x13 :: x14 :: x15 :: x16 :: x17 :: x18 :: x19 :: x20 :: x21 :: x22 :: x23 :: x24 :: x25 :: x26 :: x27 :: x28 :: x29 :: x30 :: x31 :: x32 :: x33 :: x34 :: x35 :: x36 :: x37 :: x38 :: x39 :: x40 :: x41 :: x42 :: x43 :: x44 :: x45 :: q) 45 y = x0 :: x1 :: x2 :: x3 :: x4 :: x5 :: x6 :: x7 :: x8 :: x9 :: x10 :: x11 :: x12 :: x13 :: x14 :: x15 :: x16 :: x17 :: x18 :: x19 :: x20 :: x21 :: x22 :: x23 :: x24 :: x25 :: x26 :: x27 :: x28 :: x29 :: x30 :: x31 :: x32 :: x33 :: x34 :: x35 :: x36 :: x37 :: x38 :: x39 :: x40 :: x41 :: x42 :: x43 :: x44 :: y :: q := rfl
@[simp] theorem nX45 : nX 45 = [.und, .und, .und, .und, .und, .und, .und, .und, .und, .und, .und, .und, .und, .und, .und, .und, .und, .und, .und, .und, .und, .und, .und, .und, .und, .und, .und, .und, .und, .und, .und, .und, .und, .und, .und, .und, .und, .und, .und, .und, .und, .und, .und, .und, .und] := rfl
@[simp] theorem nO45 : nO 45 = [none, none, none, none, none, none, none, none, none, none, none, none, none, none, none, none, none, none, none, none, none, none, none, none, none, none, none, none, none, none, none, none, none, none, none, none, none, none, none, none, none, none, none, none, none] := rfl
@[simp] theorem gX46 {x0 x1 x2 x3 x4 x5 x6 x7 x8 x9 x10 x11 x12 x13 x14 x15 x16 x17 x18 x19 x20 x21 x22 x23 x24 x25 x26 x27 x28 x29 x30 x31 x32 x33 x34 x35 x36 x37 x38 x39 x40 x41 x42 x43 x44 x45 x46 : X} : gX (x0 :: x1 :: x2 :: x3 :: x4 :: x5 :: x6 :: x7 :: x8 :: x9 :: x10 :: x11 :: x12 :: x13 :: x14 :: x15 :: x16 :: x17 :: x18 :: x19 :: x20 :: x21 :: x22 :: x23 :: x24 :: x25 :: x26 :: x27 :: x28 :: x29 :: x30 :: x31 :: x32 :: x33 :: x34 :: x35 :: x36 :: x37 :: x38 :: x39 :: x40 :: x41 :: x42 :: x43 :: x44 :: x45 :: x46 :: r) 46 = x46 := rfl
@[simp] theorem sX46 {x0 x1 x2 x3 x4 x5 x6 x7 x8 x9 x10 x11 x12 x13 x14 x15 x16 x17 x18 x19 x20 x21 x22 x23 x24 x25 x26 x27 x28 x29 x30 x31 x32 x33 x34 x35 x36 x37 x38 x39 x40 x41 x42 x43 x44 x45 x46 : X} : sX (x0 :: x1 :: x2 :: x3 :: x4 :: x5 :: x6 :: x7 :: x8 :: x9 :: x10 :: x11 :: x12 :: x13 :: x14 :: x15 :: x16 :: x17 :: x18 :: x19 :: x20 :: x21 :: x22 :: x23 :: x24 :: x25 :: x26 :: x27 :: x28 :: x29 :: x30 :: x31 :: x32 :: x33 :: x34 :: x35 :: x36 :: x37 :: x38 :: x39 :: x40 :: x41 :: x42 :: x43 :: x44 :: x45 :: x46 :: r) 46 z = x0 :: x1 :: x2 :: x3 :: x4 :: x5 :: x6 :: x7 :: x8 :: x9 :: x10 :: x11 :: x12 :: x13 :: x14 :: x15 :: x16 :: x17 :: x18 :: x19 :: x20 :: x21 :: x22 :: x23 :: x24 :: x25 :: x26 :: x27 :: x28 :: x29 :: x30 :: x31 :: x32 :: x33 :: x34 :: x35 :: x36 :: x37 :: x38 :: x39 :: x40 :: x41 :: x42 :: x43 :: x44 :: x45 :: z :: r := rfl
@[simp] theorem gO46 {x0 x1 x2 x3 x4 x5 x6 x7 x8 x9 x10 x11 x12 x13 x14 x15 x16 x17 x18 x19 x20 x21 x22 x23 x24 x25 x26 x27 x28 x29 x30 x31 x32 x33 x34 x35 x36 x37 x38 x39 x40 x41 x42 x43 x44 x45 x46 : Option Ob} : gO (x0 :: x1 :: x2 :: x3 :: x4 :: x5 :: x6 :: x7 :: x8 :: x9 :: x10 :: x11 :: x12 :: x13 :: x14 :: x15 :: x16 :: x17 :: x18 :: x19 :: x20 :: x21 :: x22 :: x23 :: x24 :: x25 :: x26 :: x27 :: x28 :: x29 :: x30 :: x31 :: x32 :: x33 :: x34 :: x35 :: x36 :: x37 :: x38 :: x39 :: x40 :: x41 :: x42 :: x43 :: x44 :: x45 :: x46 :: q) 46 = x46 := rfl
@[simp] theorem sO46 {x0 x1 x2 x3 x4 x5 x6 x7 x8 x9 x10 x11 x12 x13 x14 x15 x16 x17 x18 x19 x20 x21 x22 x23 x24 x25 x26 x27 x28 x29 x30 x31 x32 x33 x34 x35 x36 x37 x38 x39 x40 x41 x42 x43 x44 x45 x46 : Option Ob} : sO (x0 :: x1 :: x2 :: x3 :: x4 :: x5 :: x6 :: x7 :: x8 :: x9 :: x10 :: x11 :: x12 :: x13 :: x14 :: x15 :: x16 :: x17 :: x18 :: x19 :: x20 :: x21 :: x22 :: x23 :: x24 :: x25 :: x26 :: x27 :: x28 :: x29 :: x30 :: x31 :: x32 :: x33 :: x34 :: x35 :: x36 :: x37 :: x38 :: x39 :: x40 :: x41 :: x42 :: x43 :: x44 :: x45 :: x46 :: q) 46 y = x0 :: x1 :: x2 :: x3 :: x4 :: x5 :: x6 :: x7 :: x8 :: x9 :: x10 :: x11 :: x12 :: x13 :: x14 :: x15 :: x16 :: x17 :: x18 :: x19 :: x20 :: x21 :: x22 :: x23 :: x24 :: x25 :: x26 :: x27 :: x28 :: x29 :: x30 :: x31 :: x32 :: x33 :: x34 :: x35 :: x36 :: x37 :: x38 :: x39 :: x40 :: x41 :: x42 :: x43 :: x44 :: x45 :: y :: q := rfl
@[simp] theorem nX46 : nX 46 = [.und, .und, .und, .und, .und, .und, .und, .und, .und, .und, .und, .und, .und, .und, .und, .und, .und, .und, .und, .und, .und, .und, .und, .und, .und, .und, .und, .und, .und, .und, .und, .und, .und, .und, .und, .und, .und, .und, .und, .und, .und, .und, .und, .und, .und, .und] := rfl
@[simp] theorem nO46 : nO 46 = [none, none, none, none, none, none, none, none, none, none, none, none, none, none, none, none, none, none, none, none, none, none, none, none, none, none, none, none, none, none, none, none, none, none, none, none, none, none, none, none, none, none, none, none, none, none] := rfl
@[simp] theorem gX47 {x0 x1 x2 x3 x4 x5 x6 x7 x8 x9 x10 x11 x12 x13 x14 x15 x16 x17 x18 x19 x20 x21 x22 x23 x24 x25 x26 x27 x28 x29 x30 x31 x32 x33 x34 x35 x36 x37 x38 x39 x40 x41 x42 x43 x44 x45 x46 x47 : X} : gX (x0 :: x1 :: x2 :: x3 :: x4 :: x5 :: x6 :: x7 :: x8 :: x9 :: x10 :: x11 :: x12 :: x13 :: x14 :: x15 :: x16 :: x17 :: x18 :: x19 :: x20 :: x21 :: x22 :: x23 :: x24 :: x25 :: x26 :: x27 :: x28 :: x29 :: x30 :: x31 :: x32 :: x33 :: x34 :: x35 :: x36 :: x37 :: x38 :: x39 :: x40 :: x41 :: x42 :: x43 :: x44 :: x45 :: x46 :: x47 :: r) 47 = x47 := rfl
@[simp] theorem sX47 {x0 x1 x2 x3 x4 x5 x6 x7 x8 x9 x10 x11 x12 x13 x14 x15 x16 x17 x18 x19 x20 x21 x22 x23 x24 x25 x26 x27 x28 x29 x30 x31 x32 x33 x34 x35 x36 x37 x38 x39 x40 x41 x42 x43 x44 x45 x46 x47 : X} : sX (x0 :: x1 :: x2 :: x3 :: x4 :: x5 :: x6 :: x7 :: x8 :: x9 :: x10 :: x11 :: x12 :: x13 :: x14 :: x15 :: x16 :: x17 :: x18 :: x19 :: x20 :: x21 :: x22 :: x23 :: x24 :: x25 :: x26 :: x27 :: x28 :: x29 :: x30 :: x31 :: x32 :: x33 :: x34 :: x35 :: x36 :: x37 :: x38 :: x39 :: x40 :: x41 :: x42 :: x43 :: x44 :: x45 :: x46 :: x47 :: r) 47 z = x0 :: x1 :: x2 :: x3 :: x4 :: x5 :: x6 :: x7 :: x8 :: x9 :: x10 :: x11 :: x12 :: x13 :: x14 :: x15 :: x16 :: x17 :: x18 :: x19 :: x20 :: x21 :: x22 :: x23 :: x24 :: x25 :: x26 :: x27 :: x28 :: x29 :: x30 :: x31 :: x32 :: x33 :: x34 :: x35 :: x36 :: x37 :: x38 :: x39 :: x40 :: x41 :: x42 :: x43 :: x44 :: x45 :: x46 :: z :: r := rfl
@[simp] theorem gO47 {x0 x1 x2 x3 x4 x5 x6 x7 x8 x9 x10 x11 x12 x13 x14 x15 x16 x17 x18 x19 x20 x21 x22 x23 x24 x25 x26 x27 x28 x29 x30 x31 x32 x33 x34 x35 x36 x37 x38 x39 x40 x41 x42 x43 x44 x45 x46 x47 : Option Ob} : gO (x0 :: x1 :: x2 :: x3 :: x4 :: x5 :: x6 :: x7 :: x8 :: x9 :: x10 :: x11 :: x12 :: x13 :: x14 :: x15 :: x16 :: x17 :: x18 :: x19 :: x20 :: x21 :: x22 :: x23 :: x24 :: x25 :: x26 :: x27 :: x28 :: x29 :: x30 :: x31 :: x32 :: x33 :: x34 :: x35 :: x36 :: x37 :: x38 :: x39 :: x40 :: x41 :: x42 :: x43 :: x44 :: x45 :: x46 :: x47 :: q) 47 = x47 := rfl
@[simp] theorem sO47 {x0 x1 x2 x3 x4 x5 x6 x7 x8 x9 x10 x11 x12 x13 x14 x15 x16 x17 x18 x19 x20 x21 x22 x23 x24 x25 x26 x27 x28 x29 x30 x31 x32 x33 x34 x35 x36 x37 x38 x39 x40 x41 x42 x43 x44 x45 x46 x47 : Option Ob} : sO (x0 :: x1 :: x2 :: x3 :: x4 :: x5 :: x6 :: x7 :: x8 :: x9 :: x10 :: x11 :: x12 :: x13 :: x14 :: x15 :: x16 :: x17 :: x18 :: x19 :: x20 :: x21 :: x22 :: x23 :: x24 :: x25 :: x26 :: x27 :: x28 :: x29 :: x30 :: x31 :: x32 :: x33 :: x34 :: x35 :: x36 :: x37 :: x38 :: x39 :: x40 :: x41 :: x42 :: x43 :: x44 :: x45 :: x46 :: x47 :: q) 47 y = x0 :: x1 :: x2 :: x3 :: x4 :: x5 :: x6 :: x7 :: x8 :: x9 :: x10 :: x11 :: x12 :: x13 :: x14 :: x15 :: x16 :: x17 :: x18 :: x19 :: x20 :: x21 :: x22 :: x23 :: x24 :: x25 :: x26 :: x27 :: x28 :: x29 :: x30 :: x31 :: x32 :: x33 :: x34 :: x35 :: x36 :: x37 :: x38 :: x39 :: x40 :: x41 :: x42 :: x43 :: x44 :: x45 :: x46 :: y :: q := rfl
@[simp] theorem nX47 : nX 47 = [.und, .und, .und, .und, .und, .und, .und, .und, .und, .und, .und, .und, .und, .und, .und, .und, .und, .und, .und, .und, .und, .und, .und, .und, .und, .und, .und, .und, .und, .und, .und, .und, .und, .und, .und, .und, .und, .und, .und, .und, .und, .und, .und, .und, .und, .und, .und] := rfl
@[simp] theorem nO47 : nO 47 = [none, none, none, none, none, none, none, none, none, none, none, none, none, none, none, none, none, none, none, none, none, none, none, none, none, none, none, none, none, none, none, none, none, none, none, none, none, none, none, none, none, none, none, none, none, none, none] := rfl
@[simp] theorem gXm {i : Nat} {x0 x1 x2 x3 x4 x5 x6 x7 x8 x9 x10 x11 x12 x13 x14 x15 x16 x17 x18 x19 x20 x21 x22 x23 x24 x25 x26 x27 x28 x29 x30 x31 x32 x33 x34 x35 x36 x37 x38 x39 x40 x41 x42 x43 x44 x45 x46 x47 : X} : gX (x0 :: x1 :: x2 :: x3 :: x4 :: x5 :: x6 :: x7 :: x8 :: x9 :: x10 :: x11 :: x12 :: x13 :: x14 :: x15 :: x16 :: x17 :: x18 :: x19 :: x20 :: x21 :: x22 :: x23 :: x24 :: x25 :: x26 :: x27 :: x28 :: x29 :: x30 :: x31 :: x32 :: x33 :: x34 :: x35 :: x36 :: x37 :: x38 :: x39 :: x40 :: x41 :: x42 :: x43 :: x44 :: x45 :: x46 :: x47 :: r) (i + 48) = gX r i := rfl
@[simp] theorem sXm {i : Nat} {x0 x1 x2 x3 x4 x5 x6 x7 x8 x9 x10 x11 x12 x13 x14 x15 x16 x17 x18 x19 x20 x21 x22 x23 x24 x25 x26 x27 x28 x29 x30 x31 x32 x33 x34 x35 x36 x37 x38 x39 x40 x41 x42 x43 x44 x45 x46 x47 : X} : sX (x0 :: x1 :: x2 :: x3 :: x4 :: x5 :: x6 :: x7 :: x8 :: x9 :: x10 :: x11 :: x12 :: x13 :: x14 :: x15 :: x16 :: x17 :: x18 :: x19 :: x20 :: x21 :: x22 :: x23 :: x24 :: x25 :: x26 :: x27 :: x28 :: x29 :: x30 :: x31 :: x32 :: x33 :: x34 :: x35 :: x36 :: x37 :: x38 :: x39 :: x40 :: x41 :: x42 :: x43 :: x44 :: x45 :: x46 :: x47 :: r) (i + 48) z = x0 :: x1 :: x2 :: x3 :: x4 :: x5 :: x6 :: x7 :: x8 :: x9 :: x10 :: x11 :: x12 :: x13 :: x14 :: x15 :: x16 :: x17 :: x18 :: x19 :: x20 :: x21 :: x22 :: x23 :: x24 :: x25 :: x26 :: x27 :: x28 :: x29 :: x30 :: x31 :: x32 :: x33 :: x34 :: x35 :: x36 :: x37 :: x38 :: x39 :: x40 :: x41 :: x42 :: x43 :: x44 :: x45 :: x46 :: x47 :: sX r i z := rfl
@[simp] theorem gOm {i : Nat} {x0 x1 x2 x3 x4 x5 x6 x7 x8 x9 x10 x11 x12 x13 x14 x15 x16 x17 x18 x19 x20 x21 x22 x23 x24 x25 x26 x27 x28 x29 x30 x31 x32 x33 x34 x35 x36 x37 x38 x39 x40 x41 x42 x43 x44 x45 x46 x47 : Option Ob} : gO (x0 :: x1 :: x2 :: x3 :: x4 :: x5 :: x6 :: x7 :: x8 :: x9 :: x10 :: x11 :: x12 :: x13 :: x14 :: x15 :: x16 :: x17 :: x18 :: x19 :: x20 :: x21 :: x22 :: x23 :: x24 :: x25 :: x26 :: x27 :: x28 :: x29 :: x30 :: x31 :: x32 :: x33 :: x34 :: x35 :: x36 :: x37 :: x38 :: x39 :: x40 :: x41 :: x42 :: x43 :: x44 :: x45 :: x46 :: x47 :: q) (i + 48) = gO q i := rfl
@[simp] theorem sOm {i : Nat} {x0 x1 x2 x3 x4 x5 x6 x7 x8 x9 x10 x11 x12 x13 x14 x15 x16 x17 x18 x19 x20 x21 x22 x23 x24 x25 x26 x27 x28 x29 x30 x31 x32 x33 x34 x35 x36 x37 x38 x39 x40 x41 x42 x43 x44 x45 x46 x47 : Option Ob} : sO (x0 :: x1 :: x2 :: x3 :: x4 :: x5 :: x6 :: x7 :: x8 :: x9 :: x10 :: x11 :: x12 :: x13 :: x14 :: x15 :: x16 :: x17 :: x18 :: x19 :: x20 :: x21 :: x22 :: x23 :: x24 :: x25 :: x26 :: x27 :: x28 :: x29 :: x30 :: x31 :: x32 :: x33 :: x34 :: x35 :: x36 :: x37 :: x38 :: x39 :: x40 :: x41 :: x42 :: x43 :: x44 :: x45 :: x46 :: x47 :: q) (i + 48) y = x0 :: x1 :: x2 :: x3 :: x4 :: x5 :: x6 :: x7 :: x8 :: x9 :: x10 :: x11 :: x12 :: x13 :: x14 :: x15 :: x16 :: x17 :: x18 :: x19 :: x20 :: x21 :: x22 :: x23 :: x24 :: x25 :: x26 :: x27 :: x28 :: x29 :: x30 :: x31 :: x32 :: x33 :: x34 :: x35 :: x36 :: x37 :: x38 :: x39 :: x40 :: x41 :: x42 :: x43 :: x44 :: x45 :: x46 :: x47 :: sO q i y := rfl
@[simp] theorem nXm {i : Nat} : nX (i + 48) = .und :: .und :: .und :: .und :: .und :: .und :: .und :: .und :: .und :: .und :: .und :: .und :: .und :: .und :: .und :: .und :: .und :: .und :: .und :: .und :: .und :: .und :: .und :: .und :: .und :: .und :: .und :: .und :: .und :: .und :: .und :: .und :: .und :: .und :: .und :: .und :: .und :: .und :: .und :: .und :: .und :: .und :: .und :: .und :: .und :: .und :: .und :: .und :: nX i := rfl
@[simp] theorem nOm {i : Nat} : nO (i + 48) = none :: none :: none :: none :: none :: none :: none :: none :: none :: none :: none :: none :: none :: none :: none :: none :: none :: none :: none :: none :: none :: none :: none :: none :: none :: none :: none :: none :: none :: none :: none :: none :: none :: none :: none :: none :: none :: none :: none :: none :: none :: none :: none :: none :: none :: none :: none :: none :: nO i := rfl
@[simp] theorem gXs {x : X} {i : Nat} : gX (x :: r) (i + 1) = gX r i := rfl
@[simp] theorem sXs {x : X} {i : Nat} : sX (x :: r) (i + 1) z = x :: sX r i z := rfl
@[simp] theorem gOs {x : Option Ob} {i : Nat} : gO (x :: q) (i + 1) = gO q i := rfl
@[simp] theorem sOs {x : Option Ob} {i : Nat} : sO (x :: q) (i + 1) y = x :: sO q i y := rfl
end
end Go.Proofs.Ytpggfnggffedlaa.Ae

namespace Go.Proofs.Ytpggfnggffedlaa.Dig
def B : Nat := 4294967296
theorem B_pos : 0 < B := by decide
theorem B_one : 1 < B := by decide
def val : List Nat → Nat
  | [] => 0
  | d :: ds => d + B * val ds
def Digs (ds : List Nat) : Prop := ∀ d ∈ ds, d < B
def mag (n : Nat) : List Nat := if h : n = 0 then [] else (n % B) :: mag (n / B)
termination_by n
decreasing_by exact Nat.div_lt_self (Nat.pos_of_ne_zero h) (by decide)
theorem mag_zero : mag 0 = [] := by rw [mag]; rfl
theorem mag_pos {n : Nat} (h : n ≠ 0) : mag n = (n % B) :: mag (n / B) := by rw [mag]; rw [dif_neg h]
theorem val_mag (n : Nat) : val (mag n) = n := by
  induction n using Nat.strongRecOn with
  | ind n ih =>
    by_cases h : n = 0
    · subst h; rw [mag_zero]; rfl
    · rw [mag_pos h, val, ih (n / B) (Nat.div_lt_self (Nat.pos_of_ne_zero h) B_one)]
      exact Nat.mod_add_div n B
theorem mag_inj {a b : Nat} (h : mag a = mag b) : a = b := by rw [← val_mag a, h, val_mag]
theorem Digs.nil : Digs [] := fun _ h => by cases h
theorem Digs.cons {d : Nat} {ds : List Nat} (h : d < B) (hs : Digs ds) : Digs (d :: ds) := fun x hx => by
  rcases List.mem_cons.1 hx with rfl | hx
  · exact h
  · exact hs x hx
theorem Digs.head {d : Nat} {ds : List Nat} (h : Digs (d :: ds)) : d < B := h d List.mem_cons_self
theorem Digs.tail {d : Nat} {ds : List Nat} (h : Digs (d :: ds)) : Digs ds := fun x hx => h x (List.mem_cons_of_mem _ hx)
theorem Digs.append {a b : List Nat} (ha : Digs a) (hb : Digs b) : Digs (a ++ b) := fun x hx => by
  rcases List.mem_append.1 hx with hx | hx
  · exact ha x hx
  · exact hb x hx
theorem Digs.left {a b : List Nat} (h : Digs (a ++ b)) : Digs a := fun x hx => h x (List.mem_append.2 (.inl hx))
theorem Digs.right {a b : List Nat} (h : Digs (a ++ b)) : Digs b := fun x hx => h x (List.mem_append.2 (.inr hx))
theorem Digs.at {ds : List Nat} (h : Digs ds) {i d : Nat} (hi : ds[i]? = some d) : d < B := h d (List.mem_of_getElem? hi)
theorem Digs.take {ds : List Nat} (h : Digs ds) (i : Nat) : Digs (ds.take i) := fun x hx => h x (List.mem_of_mem_take hx)
theorem Digs.drop {ds : List Nat} (h : Digs ds) (i : Nat) : Digs (ds.drop i) := fun x hx => h x (List.mem_of_mem_drop hx)
theorem Digs.set {ds : List Nat} (h : Digs ds) (i : Nat) {d : Nat} (hd : d < B) : Digs (ds.set i d) := fun x hx => by
  rcases List.mem_or_eq_of_mem_set hx with hx | rfl
  · exact h x hx
  · exact hd
theorem Digs.zeros (n : Nat) : Digs (List.replicate n 0) := fun x hx => by
  rw [List.eq_of_mem_replicate hx]; exact B_pos
theorem mag_digs (n : Nat) : Digs (mag n) := by
  induction n using Nat.strongRecOn with
  | ind n ih =>
    by_cases h : n = 0
    · subst h; rw [mag_zero]; exact Digs.nil
    · rw [mag_pos h]
      exact (ih (n / B) (Nat.div_lt_self (Nat.pos_of_ne_zero h) B_one)).cons (Nat.mod_lt _ B_pos)
theorem val_append (a b : List Nat) : val (a ++ b) = val a + B ^ a.length * val b := by
  induction a with
  | nil => simp [val]
  | cons d a ih =>
    simp only [List.cons_append, val, ih, List.length_cons, Nat.pow_succ]
    rw [Nat.mul_add, ← Nat.mul_assoc, Nat.mul_comm B (B ^ a.length), Nat.add_assoc]
theorem val_zeros (n : Nat) : val (List.replicate n 0) = 0 := by
  induction n with
  | zero => rfl
  | succ n ih => rw [List.replicate_succ, val, ih, Nat.mul_zero]
theorem val_snoc (a : List Nat) (d : Nat) : val (a ++ [d]) = val a + B ^ a.length * d := by rw [val_append]; simp [val]
theorem val_lt {ds : List Nat} (h : Digs ds) : val ds < B ^ ds.length := by
  induction ds with
  | nil => simp [val]
  | cons d ds ih =>
    have h1 := ih h.tail
    have h2 := h.head
    simp only [val, List.length_cons, Nat.pow_succ]
    have : B * (val ds + 1) ≤ B * B ^ ds.length := Nat.mul_le_mul_left _ h1
    rw [Nat.mul_comm (B ^ ds.length) B]
    rw [Nat.mul_add] at this
    omega
theorem val_ge {ds : List Nat} {d : Nat} (h : d ≠ 0) : B ^ ds.length ≤ val (ds ++ [d]) := by
  rw [val_snoc]
  have : B ^ ds.length * 1 ≤ B ^ ds.length * d := Nat.mul_le_mul_left _ (Nat.pos_of_ne_zero h)
  omega
theorem val_take_drop (ds : List Nat) (i : Nat) (hi : i ≤ ds.length) : val ds = val (ds.take i) + B ^ i * val (ds.drop i) := by
  have := val_append (ds.take i) (ds.drop i)
  rw [List.take_append_drop, List.length_take, Nat.min_eq_left hi] at this
  exact this
theorem take_succ {α : Type} (ds : List α) (i : Nat) (d : α) (hi : ds[i]? = some d) : ds.take (i + 1) = ds.take i ++ [d] := by
  rw [List.take_add_one, hi]; rfl
theorem val_take_succ (ds : List Nat) (i d : Nat) (hi : ds[i]? = some d) : val (ds.take (i + 1)) = val (ds.take i) + B ^ i * d := by
  have h : i < ds.length := (List.getElem?_eq_some_iff.1 hi).1
  rw [take_succ ds i d hi, val_snoc, List.length_take, Nat.min_eq_left (Nat.le_of_lt h)]
theorem val_take_all (ds : List Nat) (i : Nat) (hi : ds.length ≤ i) : val (ds.take i) = val ds := by rw [List.take_of_length_le hi]
theorem val_take_getD (ds : List Nat) (i : Nat) : val (ds.take (i + 1)) = val (ds.take i) + B ^ i * ds.getD i 0 := by
  rcases Nat.lt_or_ge i ds.length with h | h
  · rw [List.getD_eq_getElem?_getD, List.getElem?_eq_getElem h, val_take_succ ds i _ (List.getElem?_eq_getElem h)]; rfl
  · rw [val_take_all _ _ (by omega), val_take_all _ _ h, List.getD_eq_getElem?_getD, List.getElem?_eq_none h]; simp
theorem getD_lt {ds : List Nat} (h : Digs ds) (i : Nat) : ds.getD i 0 < B := by
  rw [List.getD_eq_getElem?_getD]
  cases e : ds[i]? with
  | none => exact B_pos
  | some d => exact h.at e
theorem getD_out (ds : List Nat) (i : Nat) (h : ¬ i < ds.length) : ds.getD i 0 = 0 := by
  rw [List.getD_eq_getElem?_getD, List.getElem?_eq_none (by omega)]; rfl
theorem val_set : ∀ (ds : List Nat) (i d : Nat), i < ds.length → val (ds.set i d) + B ^ i * ds.getD i 0 = val ds + B ^ i * d
  | [], i, d, h => by simp at h
  | x :: ds, 0, d, h => by simp [val]; omega
  | x :: ds, i + 1, d, h => by
    have ih := val_set ds i d (by simpa using h)
    have h1 := congrArg (B * ·) ih
    simp only [Nat.mul_add] at h1
    simp only [List.set_cons_succ, val, List.getD_cons_succ, Nat.pow_succ]
    rw [Nat.mul_comm (B ^ i) B, Nat.mul_assoc, Nat.mul_assoc]
    omega
theorem mag_val : ∀ (ds : List Nat), Digs ds → (∀ d, ds.getLast? = some d → d ≠ 0) → mag (val ds) = ds
  | [], _, _ => mag_zero
  | d :: ds, h, hl => by
    have hd := h.head
    have ih := mag_val ds h.tail (fun e he => hl e (by
      cases ds with
      | nil => cases he
      | cons x xs => simpa using he))
    have hne : val (d :: ds) ≠ 0 := by
      cases ds with
      | nil =>
        have := hl d rfl
        simp only [val]; omega
      | cons x xs =>
        simp only [val]
        intro e
        have h0 : val (x :: xs) = 0 := by
          have hB := B_pos
          rcases Nat.eq_zero_or_pos (val (x :: xs)) with h | h
          · exact h
          · have : 0 < B * val (x :: xs) := Nat.mul_pos hB h
            simp only [val] at this
            omega
        rw [h0, mag_zero] at ih
        cases ih
    rw [mag_pos hne]
    have e1 : val (d :: ds) % B = d := by simp only [val]; rw [Nat.add_mul_mod_self_left]; exact Nat.mod_eq_of_lt hd
    have e2 : val (d :: ds) / B = val ds := by
      simp only [val]
      rw [Nat.add_mul_div_left _ _ B_pos, Nat.div_eq_of_lt hd, Nat.zero_add]
    rw [e1, e2, ih]
theorem mag_last (n : Nat) (d : Nat) (h : (mag n).getLast? = some d) : d ≠ 0 := by
  induction n using Nat.strongRecOn with
  | ind n ih =>
    by_cases h0 : n = 0
    · subst h0; rw [mag_zero] at h; cases h
    · rw [mag_pos h0] at h
      by_cases h1 : n / B = 0
      · rw [h1, mag_zero] at h
        simp only [List.getLast?_singleton, Option.some.injEq] at h
        have := Nat.mod_add_div n B
        rw [h1] at this
        omega
      · have h2 := ih (n / B) (Nat.div_lt_self (Nat.pos_of_ne_zero h0) B_one)
        rw [mag_pos h1] at h h2
        exact h2 (by simpa using h)
theorem mag_val_snoc {ds : List Nat} {d : Nat} (h : Digs (ds ++ [d])) (hd : d ≠ 0) : mag (val (ds ++ [d])) = ds ++ [d] := mag_val _ h (fun e he => by
  simp only [List.getLast?_append, List.getLast?_singleton, Option.some_or, Option.some.injEq] at he
  subst he; exact hd)
theorem val_snoc_zero (ds : List Nat) : val (ds ++ [0]) = val ds := by rw [val_snoc]; simp
theorem mag_lt {n k : Nat} : (mag n).length ≤ k ↔ n < B ^ k := by
  constructor
  · intro h
    have := val_lt (mag_digs n)
    rw [val_mag] at this
    exact Nat.lt_of_lt_of_le this (Nat.pow_le_pow_right B_pos h)
  · intro h
    rcases Nat.lt_or_ge k (mag n).length with h1 | h1
    · exfalso
      rcases List.eq_nil_or_concat (mag n) with e | ⟨ds, d, e⟩
      · rw [e] at h1; simp at h1
      · rw [List.concat_eq_append] at e
        have hd : d ≠ 0 := mag_last n d (by rw [e]; simp)
        have h2 := val_ge (ds := ds) hd
        rw [← e, val_mag] at h2
        have h3 : k ≤ ds.length := by rw [e] at h1; simp at h1; omega
        have := Nat.pow_le_pow_right B_pos h3
        omega
    · exact h1
theorem mag_len_lt {a b : Nat} (h : (mag a).length < (mag b).length) : a < b := by
  have h1 : a < B ^ (mag a).length := mag_lt.1 (Nat.le_refl _)
  rcases Nat.lt_or_ge b (B ^ (mag a).length) with h2 | h2
  · have := mag_lt.2 h2; omega
  · omega
theorem mag_len_le {a b : Nat} (h : a ≤ b) : (mag a).length ≤ (mag b).length := by
  rcases Nat.lt_or_ge (mag b).length (mag a).length with h1 | h1
  · have := mag_len_lt h1; omega
  · exact h1
theorem mag_nil {n : Nat} : mag n = [] ↔ n = 0 := by
  constructor
  · intro h; rw [← val_mag n, h]; rfl
  · rintro rfl; exact mag_zero
theorem mag_len_zero {n : Nat} : (mag n).length = 0 ↔ n = 0 := by rw [List.length_eq_zero_iff, mag_nil]
theorem val_cmp {a b : List Nat} {i x y : Nat} (ha : Digs a) (hb : Digs b) (hl : a.length = b.length) (hx : a[i]? = some x) (hy : b[i]? = some y) (hs : a.drop (i + 1) = b.drop (i + 1)) (h : x < y) : val a < val b := by
  have hi : i < a.length := (List.getElem?_eq_some_iff.1 hx).1
  have h1 := val_take_drop a (i + 1) hi
  have h2 := val_take_drop b (i + 1) (by omega)
  have h3 := val_take_succ a i x hx
  have h4 := val_take_succ b i y hy
  have h5 := val_lt (ha.take i)
  rw [List.length_take, Nat.min_eq_left (Nat.le_of_lt hi)] at h5
  rw [h1, h2, h3, h4, hs]
  have : B ^ i * (x + 1) ≤ B ^ i * y := Nat.mul_le_mul_left _ h
  rw [Nat.mul_add] at this
  omega
def dig : Nat → Nat → List Nat
  | 0, _ => []
  | n + 1, x => (x % B) :: dig n (x / B)
theorem dig_len : ∀ (n x : Nat), (dig n x).length = n
  | 0, _ => rfl
  | n + 1, x => by simp [dig, dig_len n]
theorem dig_digs : ∀ (n x : Nat), Digs (dig n x)
  | 0, _ => Digs.nil
  | n + 1, x => (dig_digs n _).cons (Nat.mod_lt _ B_pos)
theorem dig_val : ∀ (ds : List Nat), Digs ds → dig ds.length (val ds) = ds
  | [], _ => rfl
  | d :: ds, h => by
    have hd := h.head
    have e1 : val (d :: ds) % B = d := by simp only [val]; rw [Nat.add_mul_mod_self_left]; exact Nat.mod_eq_of_lt hd
    have e2 : val (d :: ds) / B = val ds := by
      simp only [val]
      rw [Nat.add_mul_div_left _ _ B_pos, Nat.div_eq_of_lt hd, Nat.zero_add]
    simp only [List.length_cons, dig, e1, e2, dig_val ds h.tail]
theorem val_dig : ∀ (n x : Nat), x < B ^ n → val (dig n x) = x
  | 0, x, h => by simp only [Nat.pow_zero] at h; simp [dig, val]; omega
  | n + 1, x, h => by
    simp only [dig, val]
    rw [val_dig n (x / B) (by rw [Nat.div_lt_iff_lt_mul B_pos, ← Nat.pow_succ]; exact h)]
    exact Nat.mod_add_div x B
theorem dig_of {ds : List Nat} {n x : Nat} (h : Digs ds) (hl : ds.length = n) (hv : val ds = x) : dig n x = ds := by rw [← hl, ← hv]; exact dig_val ds h
theorem dig_take : ∀ (n x : Nat), (mag x).length ≤ n → (dig n x).take (mag x).length = mag x
  | 0, x, h => by
    have : mag x = [] := List.eq_nil_of_length_eq_zero (by omega)
    rw [this]; rfl
  | n + 1, x, h => by
    by_cases h0 : x = 0
    · subst h0; rw [mag_zero]; rfl
    · rw [mag_pos h0] at h ⊢
      simp only [List.length_cons, dig, List.take_succ_cons]
      rw [dig_take n (x / B) (by simpa using h)]
end Go.Proofs.Ytpggfnggffedlaa.Dig

namespace Go.Proofs.Ytpggfnggffedlaa.Ae
open Go Go.RowKit Go.Proofs.Ytpggfnggffedlaa.Dig
section
variable {P : Program} {mf : FuncId → Bool} {tb : FuncId → Option Ct}
def nf (s : St) : St := s
@[simp] theorem nf_mk (tm : List X) (ob : List (Option Ob)) : nf ⟨tm, ob⟩ = ⟨tm, ob⟩ := rfl
def Kseq (P : Program) (mf : FuncId → Bool) (tb : FuncId → Option Ct) (y : Code) (K : Exit → St → Prop) : Exit → St → Prop := fun e s => match e with
  | .normal => awp P mf tb y s K
  | e => K e s
def Kblk (i : Nat) (K : Exit → St → Prop) : Exit → St → Prop := fun e s => match e with
  | .exit j => if j = i then K .normal s else K (.exit j) s
  | e => K e s
def Knrm (K : Exit → St → Prop) : St → Prop := fun s => K .normal s
def Kops (P : Program) (mf : FuncId → Bool) (tb : FuncId → Option Ct) (ops : Array Oper) (l : List Oper) (K : St → Prop) : St → Prop := fun s => aops P mf tb ops l s K
def Klp (KN : St → Prop) (K : Exit → St → Prop) : Exit → St → Prop := fun e s => match e with
  | .normal => KN s
  | e => K e s
@[simp] theorem kseq_n {y : Code} {K : Exit → St → Prop} {s : St} : Kseq P mf tb y K .normal s = awp P mf tb y (nf s) K := rfl
@[simp] theorem kseq_e {y : Code} {K : Exit → St → Prop} {i : Nat} {s : St} : Kseq P mf tb y K (.exit i) s = K (.exit i) s := rfl
@[simp] theorem kseq_r {y : Code} {K : Exit → St → Prop} {s : St} : Kseq P mf tb y K .ret s = K .ret s := rfl
@[simp] theorem kblk_n {i : Nat} {K : Exit → St → Prop} {s : St} : Kblk i K .normal s = K .normal s := rfl
@[simp] theorem kblk_e {i j : Nat} {K : Exit → St → Prop} {s : St} : Kblk i K (.exit j) s = if j = i then K .normal s else K (.exit j) s := rfl
@[simp] theorem kblk_r {i : Nat} {K : Exit → St → Prop} {s : St} : Kblk i K .ret s = K .ret s := rfl
@[simp] theorem knrm {K : Exit → St → Prop} {s : St} : Knrm K s = K .normal s := rfl
@[simp] theorem kops {ops : Array Oper} {l : List Oper} {K : St → Prop} {s : St} : Kops P mf tb ops l K s = aops P mf tb ops l (nf s) K := rfl
@[simp] theorem klp_n {KN : St → Prop} {K : Exit → St → Prop} {s : St} : Klp KN K .normal s = KN s := rfl
@[simp] theorem klp_e {KN : St → Prop} {K : Exit → St → Prop} {i : Nat} {s : St} : Klp KN K (.exit i) s = K (.exit i) s := rfl
@[simp] theorem klp_r {KN : St → Prop} {K : Exit → St → Prop} {s : St} : Klp KN K .ret s = K .ret s := rfl
def fin (r : Out) (d : Option Nat) (s : St) (k : St → Prop) : Prop := r.pre ∧ k (s.apply d r)
def gstep (P : Program) (mf : FuncId → Bool) (tb : FuncId → Option Ct) (g : Gd) (o : Oper) (s : St) (k : St → Prop) : Prop := match g with
  | .go => fin (aop P mf tb s o) o.dst s k
  | .no => k (s.put o.dst .und)
  | .test t c b => (c = b → fin (aop P mf tb (s.put (some t) (.dat (.lit (.bool b)))) o) o.dst (s.put (some t) (.dat (.lit (.bool b)))) k) ∧ (c = !b → k ((s.put (some t) (.dat (.lit (.bool (!b))))).put o.dst .und))
  | .bad => False
def condm (P : Program) (mf : FuncId → Bool) (tb : FuncId → Option Ct) (v : X) (c : Operand) (x y : Code) (s : St) (k : Exit → St → Prop) : Prop := match v with
  | .dat (.lit (.bool v)) => (v = true → awp P mf tb x (refineC s c true) k) ∧ (v = false → awp P mf tb y (refineC s c false) k)
  | _ => False
@[congr] theorem awp_cg2 {c : Code} {K : Exit → St → Prop} {s s' : St} (h : s = s') : awp P mf tb c s K = awp P mf tb c s' K := by rw [h]
@[congr] theorem aops_cg2 {ops : Array Oper} {l : List Oper} {K : St → Prop} {s s' : St} (h : s = s') : aops P mf tb ops l s K = aops P mf tb ops l s' K := by rw [h]
@[congr] theorem fin_cg {r r' : Out} {d : Option Nat} {s : St} {k : St → Prop} (h : r = r') : fin r d s k = fin r' d s k := by rw [h]
@[congr] theorem gstep_cg {g g' : Gd} {o : Oper} {s : St} {k : St → Prop} (h : g = g') : gstep P mf tb g o s k = gstep P mf tb g' o s k := by rw [h]
@[congr] theorem condm_cg {v v' : X} {c : Operand} {x y : Code} {s : St} {k : Exit → St → Prop} (h : v = v') : condm P mf tb v c x y s k = condm P mf tb v' c x y s k := by rw [h]
@[simp] theorem w_skip {s : St} {K : Exit → St → Prop} : awp P mf tb .skip s K = K .normal s := rfl
@[simp] theorem w_exit {s : St} {i : Nat} {K : Exit → St → Prop} : awp P mf tb (.exit i) s K = K (.exit i) s := rfl
@[simp] theorem w_ret {s : St} {K : Exit → St → Prop} : awp P mf tb .ret s K = K .ret s := rfl
@[simp] theorem w_seq {x y : Code} {s : St} {K : Exit → St → Prop} : awp P mf tb (.seq x y) s K = awp P mf tb x (nf s) (Kseq P mf tb y K) := rfl
@[simp] theorem w_block {x : Code} {i : Nat} {s : St} {K : Exit → St → Prop} : awp P mf tb (.block i x) s K = awp P mf tb x (nf s) (Kblk i K) := rfl
@[simp] theorem w_cond {c : Operand} {x y : Code} {s : St} {K : Exit → St → Prop} : awp P mf tb (.cond c x y) s K = condm P mf tb (ev s c) c x y s K := rfl
def fresh (l : List Nat) (tm : List X) : Prop := l = [] ∨ NoRefs l tm
@[simp] theorem fresh_nil {tm : List X} : fresh [] tm = True := by simp [fresh]
@[simp] theorem fresh_cons {a : Nat} {l : List Nat} {tm : List X} : fresh (a :: l) tm = NoRefs (a :: l) tm := by simp [fresh]
def regn (P : Program) (mf : FuncId → Bool) (tb : FuncId → Option Ct) (p : Prop) (ops : Array Oper) (l : List Oper) (s : St) (K : St → Prop) : Prop := p ∧ aops P mf tb ops l s K
@[congr] theorem regn_cg {p p' : Prop} {ops : Array Oper} {l : List Oper} {s : St} {K : St → Prop} (h : p = p') : regn P mf tb p ops l s K = regn P mf tb p' ops l s K := by rw [h]
@[simp] theorem regn_true {ops : Array Oper} {l : List Oper} {s : St} {K : St → Prop} : regn P mf tb True ops l s K = aops P mf tb ops l (nf s) K := by simp [regn, nf]
@[simp] theorem w_region {i : Nat} {l : List Oper} {d : Bool} {s : St} {K : Exit → St → Prop} : awp P mf tb (.region i l.toArray d) s K = (match isNx l with
    | true => d = false ∧ nxW l s (Knrm K)
    | false => regn P (mfR mf i) tb (fresh (mkIds l) s.tm) l.toArray l s (Knrm K)) := rfl
@[simp] theorem a_nil {ops : Array Oper} {s : St} {K : St → Prop} : aops P mf tb ops [] s K = K s := rfl
@[simp] theorem a_cons {ops : Array Oper} {o : Oper} {l : List Oper} {s : St} {K : St → Prop} : aops P mf tb ops (o :: l) s K = gstep P mf tb (gd ops s o) o s (Kops P mf tb ops l K) := by
  show astep P mf tb ops o s _ = _
  unfold astep gstep
  cases gd ops s o <;> rfl
@[simp] theorem g_go {o : Oper} {s : St} {k : St → Prop} : gstep P mf tb .go o s k = fin (aop P mf tb s o) o.dst s k := rfl
@[simp] theorem g_no {o : Oper} {s : St} {k : St → Prop} : gstep P mf tb .no o s k = k (s.put o.dst .und) := rfl
@[simp] theorem g_tt {t : Nat} {o : Oper} {s : St} {k : St → Prop} : gstep P mf tb (.test t true true) o s k = fin (aop P mf tb (s.put (some t) (.dat (.lit (.bool true)))) o) o.dst (s.put (some t) (.dat (.lit (.bool true)))) k := by simp [gstep]
@[simp] theorem g_ff {t : Nat} {o : Oper} {s : St} {k : St → Prop} : gstep P mf tb (.test t false false) o s k = fin (aop P mf tb (s.put (some t) (.dat (.lit (.bool false)))) o) o.dst (s.put (some t) (.dat (.lit (.bool false)))) k := by simp [gstep]
@[simp] theorem g_tf {t : Nat} {o : Oper} {s : St} {k : St → Prop} : gstep P mf tb (.test t true false) o s k = k ((s.put (some t) (.dat (.lit (.bool true)))).put o.dst .und) := by simp [gstep]
@[simp] theorem g_ft {t : Nat} {o : Oper} {s : St} {k : St → Prop} : gstep P mf tb (.test t false true) o s k = k ((s.put (some t) (.dat (.lit (.bool false)))).put o.dst .und) := by simp [gstep]
@[simp low] theorem g_test {t : Nat} {c b : Bool} {o : Oper} {s : St} {k : St → Prop} : gstep P mf tb (.test t c b) o s k = ((c = b → fin (aop P mf tb (s.put (some t) (.dat (.lit (.bool b)))) o) o.dst (s.put (some t) (.dat (.lit (.bool b)))) k) ∧ (c = !b → k ((s.put (some t) (.dat (.lit (.bool (!b))))).put o.dst .und))) := rfl
@[simp] theorem c_t {c : Operand} {x y : Code} {s : St} {k : Exit → St → Prop} : condm P mf tb (.dat (.lit (.bool true))) c x y s k = awp P mf tb x (nf (refineC s c true)) k := by simp [condm, nf]
@[simp] theorem c_f {c : Operand} {x y : Code} {s : St} {k : Exit → St → Prop} : condm P mf tb (.dat (.lit (.bool false))) c x y s k = awp P mf tb y (nf (refineC s c false)) k := by simp [condm, nf]
@[simp low] theorem c_v {v : Bool} {c : Operand} {x y : Code} {s : St} {k : Exit → St → Prop} : condm P mf tb (.dat (.lit (.bool v))) c x y s k = ((v = true → awp P mf tb x (nf (refineC s c true)) k) ∧ (v = false → awp P mf tb y (nf (refineC s c false)) k)) := rfl
@[simp] theorem f_t {x : X} {up : List (Nat × Option Ob)} {d : Nat} {tm : List X} {ob : List (Option Ob)} {k : St → Prop} : fin ⟨True, x, up⟩ (some d) ⟨tm, ob⟩ k = k (nf ⟨sX tm d x, St.ups ob up⟩) := by simp [fin, nf, St.apply, St.put, sX]
@[simp] theorem f_n {x : X} {up : List (Nat × Option Ob)} {tm : List X} {ob : List (Option Ob)} {k : St → Prop} : fin ⟨True, x, up⟩ none ⟨tm, ob⟩ k = k (nf ⟨tm, St.ups ob up⟩) := by simp [fin, nf, St.apply, St.put]
@[simp] theorem f_F {x : X} {up : List (Nat × Option Ob)} {d : Option Nat} {s : St} {k : St → Prop} : fin ⟨False, x, up⟩ d s k = False := by simp [fin]
@[simp low] theorem f_p {p : Prop} {x : X} {up : List (Nat × Option Ob)} {d : Nat} {tm : List X} {ob : List (Option Ob)} {k : St → Prop} : fin ⟨p, x, up⟩ (some d) ⟨tm, ob⟩ k = (p ∧ k (nf ⟨sX tm d x, St.ups ob up⟩)) := by simp [fin, nf, St.apply, St.put, sX]
@[simp low] theorem f_pn {p : Prop} {x : X} {up : List (Nat × Option Ob)} {tm : List X} {ob : List (Option Ob)} {k : St → Prop} : fin ⟨p, x, up⟩ none ⟨tm, ob⟩ k = (p ∧ k (nf ⟨tm, St.ups ob up⟩)) := by simp [fin, nf, St.apply, St.put]
@[simp] theorem s_get {tm : List X} {ob : List (Option Ob)} {t : Nat} : St.get ⟨tm, ob⟩ t = gX tm t := rfl
@[simp] theorem s_obj {tm : List X} {ob : List (Option Ob)} {o : Nat} : St.obj ⟨tm, ob⟩ o = gO ob o := rfl
@[simp] theorem s_put {tm : List X} {ob : List (Option Ob)} {t : Nat} {x : X} : St.put ⟨tm, ob⟩ (some t) x = ⟨sX tm t x, ob⟩ := rfl
@[simp] theorem s_putn {tm : List X} {ob : List (Option Ob)} {x : X} : St.put ⟨tm, ob⟩ none x = ⟨tm, ob⟩ := rfl
@[simp] theorem ups_n {ob : List (Option Ob)} : St.ups ob [] = ob := rfl
@[simp] theorem ups_c {ob : List (Option Ob)} {p : Nat × Option Ob} {l : List (Nat × Option Ob)} : St.ups ob (p :: l) = St.ups (sO ob p.1 p.2) l := rfl
@[simp] theorem ev_tmp (st : St) (t : Nat) : ev st (.tmp t) = st.get t := rfl
@[simp] theorem ev_int (st : St) (k : IntKind) (n : Int) : ev st (.const (.int k n)) = .dat (.lit (.int k n)) := by simp [ev, Value.oneCell']
@[simp] theorem ev_str (st : St) (s : ByteArray) : ev st (.const (.string s)) = .dat (.lit (.string s)) := by simp [ev, Value.oneCell']
@[simp] theorem ev_bool (st : St) (b : Bool) : ev st (.const (.bool b)) = .dat (.lit (.bool b)) := by simp [ev, Value.oneCell']
@[simp] theorem ev_nils (st : St) : ev st (.const (.slice none 0 0)) = .dat (.lit (.slice none 0 0)) := by simp [ev, Value.oneCell']
@[simp] theorem ev_nilp (st : St) : ev st (.const (.pointer none)) = .dat (.lit (.pointer none)) := by simp [ev, Value.oneCell']
@[simp] theorem ev_agg (st : St) (l : List Value) : ev st (.const (.agg l.toArray)) = if l.all Value.oneCell' = true then .dat (.agg (l.map .lit)) else .any := by simp [ev]
end
def ix (xs : List D) (i : Nat) : Option D := xs[i]?
def lset (xs : List D) (i : Nat) (d : D) : List D := xs.set i d
def lsub (xs : List D) (lo hi : Nat) : List D := (xs.take hi).drop lo
section
variable {P : Program} {mf : FuncId → Bool} {tb : FuncId → Option Ct} {st : St} {d : Option Nat} {ty : TypeId} {pos : String} {af : Array Edge} {g : Option (Nat × Bool)}
def convA (P : Program) (a b : TypeId) (x : X) : Out := match P.underlying a, P.underlying b, x with
    | some _, some (.int k), .dat (.lit (.int _ n)) => .lit (.int k (k.wrap n))
    | some _, some (.float k), .dat (.lit (.int _ n)) => .lit (.float k (floatOfInt k n))
    | some _, some (.float k), .dat (.lit (.float s b)) => ⟨s = k, .dat (.lit (.float k b)), []⟩
    | _, _, _ => .bad
def convX (P : Program) (mf : FuncId → Bool) (st : St) (a b : TypeId) (x : X) : Out := match mf strc with
  | true => barIf (fl mf x) (strA P st (P.underlying a) (P.underlying b) x)
  | false => convA P a b x
def nilA : X → Out
    | .obj ob p off => ⟨True, .obj ob p off, []⟩
    | .dat (.ptr d) => ⟨True, .dat (.ptr d), []⟩
    | _ => .bad
def boxA (st : St) (d : Option Nat) (x : X) : Out := match x, d with
    | .dat d, some s => ⟨st.obj s = none ∧ s < st.ob.length, .obj s [] 0, [(s, some (.box d))]⟩
    | _, _ => .bad
def allocA (P : Program) (st : St) (d : Option Nat) (t : TypeId) : Out := match (P.info? t).bind (·.zero), d with
    | some v, some s => ⟨(st.obj s = none ∧ s < st.ob.length) ∧ litOk P t v, .obj s [] 0, [(s, some (.box (litD P t v)))]⟩
    | _, _ => .bad
def fieldA (P : Program) (s : TypeId) (i : Nat) (x : X) : Out := match P.underlying s with
    | some (.struct fs) => match fs[i]? with
      | some f => match x with
        | .obj ob p off => ⟨P.cellsOf f.type ≠ 0, .obj ob (p ++ [i]) (off + f.offset), []⟩
        | .elt ob j p off => ⟨P.cellsOf f.type ≠ 0, .elt ob j (p ++ [i]) (off + f.offset), []⟩
        | .dat (.ptr (.agg ds)) => match ds[i]? with
          | some d => ⟨P.cellsOf f.type ≠ 0 ∧ f.offset = D.sizes (ds.take i), .dat (.ptr d), []⟩
          | none => .bad
        | _ => .bad
      | none => .bad
    | _ => .bad
def loadA (P : Program) (st : St) (t : TypeId) (x : X) : Out := match x with
    | .obj ob p off => match st.box? ob with
        | some d => match nav d p with
          | some (e, off') => ⟨off' = off ∧ P.cellsOf t = e.size ∧ isAggT P t = e.isAgg ∧ (P.underlying t).isSome ∧ (P.info? t).isSome, .dat e, []⟩
          | none => .bad
        | none => .bad
    | .elt ob j p off => match st.row? ob with
      | some (sz, _, xs) => match ix xs j with
        | some d => match nav d p with
          | some (e, off') => ⟨d.size = sz ∧ off' = off ∧ P.cellsOf t = e.size ∧ isAggT P t = e.isAgg ∧ (P.underlying t).isSome ∧ (P.info? t).isSome, .dat e, []⟩
          | none => .bad
        | none => .bad
      | none => .bad
    | .dat (.ptr d) => ⟨P.cellsOf t = d.size ∧ isAggT P t = d.isAgg ∧ (P.underlying t).isSome ∧ (P.info? t).isSome, .dat d, []⟩
    | _ => .bad
def storeA (P : Program) (st : St) (t : TypeId) (a v : X) : Out := match a, v with
    | .obj ob p off, .dat x => match st.wbox? ob with
      | some d => match nav d p with
        | some (e, off') => ⟨off' = off ∧ x.size = e.size ∧ P.cellsOf t = x.size ∧ (P.info? t).isSome, .und, [(ob, setBox (st.obj ob) (upd d p x))]⟩
        | none => .bad
      | _ => .bad
    | .elt ob j p off, .dat x => match st.obj ob with
      | some (.row sz e xs) => match ix xs j with
        | some d => match nav d p with
          | some (e', off') => ⟨d.size = sz ∧ off' = off ∧ x.size = e'.size ∧ P.cellsOf t = x.size ∧ (P.info? t).isSome, .und, [(ob, some (.row sz e (lset xs j (upd d p x))))]⟩
          | none => .bad
        | none => .bad
      | some (.prow sz e cp xs) => match ix xs j with
        | some d => match nav d p with
          | some (e', off') => ⟨d.size = sz ∧ off' = off ∧ x.size = e'.size ∧ P.cellsOf t = x.size ∧ (P.info? t).isSome, .und, [(ob, some (.prow sz e cp (lset xs j (upd d p x))))]⟩
          | none => .bad
        | none => .bad
      | _ => .bad
    | _, _ => .bad
def buildX (P : Program) (mf : FuncId → Bool) (st : St) (t : TypeId) (is : List Nat) (xs : List X) : Out := match mf (bld t) with
    | false => match datas xs with
      | some ds => ⟨(buildA P t is ds).1, .dat (buildA P t is ds).2, []⟩
      | none => .bad
    | true => match asDatas st xs with
      | some ps => ⟨(buildA P t is (ps.map (·.1))).1 ∧ allFreeze st (owners ps), .dat (buildA P t is (ps.map (·.1))).2, freezes st (owners ps)⟩
      | none => .bad
def extrA (i : Nat) (x : X) : Out := match x with
    | .tup rs => match rs[i]? with
      | some r => ⟨True, r.x, []⟩
      | none => .bad
    | _ => .bad
def idxA (P : Program) (st : St) (t : TypeId) (x i : X) : Out := match P.underlying t, i with
    | some (.slice e), .dat (.lit (.int _ n)) => match x with
      | .dat (.sl sz xs) => match ix xs n.toNat with
        | some d => ⟨0 ≤ n ∧ P.cellsOf e = sz ∧ (P.info? e).isSome, .dat (.ptr d), []⟩
        | none => .bad
      | .row ob => match st.row? ob with
        | some (sz, _, xs) => ⟨(0 ≤ n ∧ n < xs.length) ∧ P.cellsOf e = sz ∧ (P.info? e).isSome, .elt ob n.toNat [] 0, []⟩
        | none => .bad
      | .win ob lo m => match st.row? ob with
        | some (sz, _, xs) => ⟨(0 ≤ n ∧ n < m) ∧ lo + m ≤ xs.length ∧ P.cellsOf e = sz ∧ (P.info? e).isSome, .elt ob (lo + n.toNat) [] 0, []⟩
        | none => .bad
      | _ => .bad
    | some (.array m e), .dat (.lit (.int _ n)) => match x with
      | .obj ob p off => ⟨(0 ≤ n ∧ n < m) ∧ (P.info? e).isSome, .obj ob (p ++ [n.toNat]) (off + n.toNat * P.cellsOf e), []⟩
      | .elt ob j p off => ⟨(0 ≤ n ∧ n < m) ∧ (P.info? e).isSome, .elt ob j (p ++ [n.toNat]) (off + n.toNat * P.cellsOf e), []⟩
      | .dat (.ptr (.agg ds)) => match ds[n.toNat]? with
        | some d => ⟨(0 ≤ n ∧ n < m) ∧ (P.info? e).isSome ∧ n.toNat * P.cellsOf e = D.sizes (ds.take n.toNat), .dat (.ptr d), []⟩
        | none => .bad
      | _ => .bad
    | _, _ => .bad
def sliceX (P : Program) (st : St) (t : TypeId) (x : X) (lo hi : Option X) : Out := match P.underlying t, loB lo with
  | some (.slice e), some l => match x with
    | .dat (.sl sz xs) => match hiB xs.length hi with
      | some h => ⟨(0 ≤ l ∧ l ≤ h ∧ h ≤ xs.length) ∧ (P.info? e).isSome ∧ P.cellsOf e = sz, .dat (.sl sz (lsub xs l.toNat h.toNat)), []⟩
      | none => .bad
    | .row ob => match st.row? ob with
      | some (sz, _, xs) => match hiB xs.length hi with
        | some h => ⟨(0 ≤ l ∧ l ≤ h ∧ h ≤ xs.length) ∧ (P.info? e).isSome ∧ P.cellsOf e = sz, .win ob l.toNat (h - l).toNat, []⟩
        | none => .bad
      | none => .bad
    | .win ob k n => match st.row? ob with
      | some (sz, _, xs) => match hiB n hi with
        | some h => ⟨(0 ≤ l ∧ l ≤ h ∧ h ≤ n) ∧ k + n ≤ xs.length ∧ (P.info? e).isSome ∧ P.cellsOf e = sz, .win ob (k + l.toNat) (h - l).toNat, []⟩
        | none => .bad
      | none => .bad
    | _ => .bad
  | some (.array m e), some l => match hi, x with
    | none, .obj o [] 0 => ⟨l = 0 ∧ (P.info? e).isSome, .arr o (P.cellsOf e) m, []⟩
    | _, _ => .bad
  | some .string, some l => strSl x l hi
  | _, _ => .bad
def mkSl (P : Program) (st : St) (d : Option Nat) (t : TypeId) (l c : X) : Out := match d with
    | some k => match P.underlying t, l, c with
      | some (.slice e), .dat (.lit (.int _ n)), .dat (.lit (.int _ m)) => match (P.info? e).bind (·.zero) with
        | some z => ⟨(0 ≤ n ∧ n ≤ m) ∧ P.bytesOf e * m ≤ 140737488355328 ∧ m ≤ 9223372036854775807 ∧ z.cells.size = P.cellsOf e ∧ 0 < P.cellsOf e ∧ litOk P e z ∧ st.obj k = none ∧ k < st.ob.length,
            .row k, [(k, some (.row (P.cellsOf e) e (List.replicate n.toNat (litD P e z))))]⟩
        | none => .bad
      | _, _, _ => .bad
    | none => .bad
def bdSl (P : Program) (mf : FuncId → Bool) (st : St) (d : Option Nat) (t : TypeId) (n : Nat) (is : List Nat) (xs : List X) : Out := match (mf (bld t) && n != 0) with
  | true => buildO P st (P.underlying t) n is xs
  | false => match d with
    | some k => match P.underlying t, datas xs with
      | some (.slice e), some ds => match is with
        | [] => ⟨n = 0 ∧ (P.info? e).isSome ∧ st.obj k = none ∧ k < st.ob.length, .row k, [(k, some (.row (P.cellsOf e) e []))]⟩
        | _ :: _ => match mf (rowb t) with
          | true => ⟨(0 < n ∧ is = List.range n ∧ (∀ d ∈ ds, d.size = P.cellsOf e) ∧ n * P.cellsOf e ≤ 16777216 ∧ (∃ z, (P.info? e).bind (·.zero) = some z) ∧ 0 < P.cellsOf e) ∧ st.obj k = none ∧ k < st.ob.length, .row k, [(k, some (.row (P.cellsOf e) e ds))]⟩
          | false => ⟨0 < n ∧ is = List.range n ∧ (∀ d ∈ ds, d.size = P.cellsOf e) ∧ n * P.cellsOf e ≤ 16777216 ∧ (∃ z, (P.info? e).bind (·.zero) = some z) ∧ 0 < P.cellsOf e, .dat (.sl (P.cellsOf e) ds), []⟩
      | _, _ => .bad
    | none => .bad
@[simp] theorem o_move {x : Operand} : aop P mf tb st ⟨d, .move x, ty, pos, af, g⟩ = ⟨True, ev st x, []⟩ := rfl
@[simp] theorem o_assign {x : Operand} : aop P mf tb st ⟨d, .assign x, ty, pos, af, g⟩ = ⟨True, ev st x, []⟩ := rfl
@[simp] theorem o_pick {c a b : Operand} : aop P mf tb st ⟨d, .pick c a b, ty, pos, af, g⟩ = pickA (ev st c) (ev st a) (ev st b) := rfl
@[simp] theorem o_bin {op : BinOp} {t t' : TypeId} {x y : Operand} : aop P mf tb st ⟨d, .binOp op t x y t', ty, pos, af, g⟩ = binA P op t (ev st x) (ev st y) := rfl
@[simp] theorem o_un {op : UnOp} {t : TypeId} {x : Operand} : aop P mf tb st ⟨d, .unOp op t x, ty, pos, af, g⟩ = unA op (ev st x) := rfl
@[simp] theorem o_conv {a b : TypeId} {x : Operand} : aop P mf tb st ⟨d, .convert a b x, ty, pos, af, g⟩ = convX P mf st a b (ev st x) := rfl
@[simp] theorem o_index {t : TypeId} {x i : Operand} : aop P mf tb st ⟨d, .index t x i, ty, pos, af, g⟩ = strIdx P (P.underlying t) (ev st x) (ev st i) := rfl
@[simp] theorem o_nil {x : Operand} : aop P mf tb st ⟨d, .nilCheck x, ty, pos, af, g⟩ = nilA (ev st x) := rfl
@[simp] theorem o_box {t : TypeId} {x : Operand} : aop P mf tb st ⟨d, .box t x, ty, pos, af, g⟩ = boxA st d (ev st x) := rfl
@[simp] theorem o_alloc {t : TypeId} : aop P mf tb st ⟨d, .alloc t, ty, pos, af, g⟩ = allocA P st d t := rfl
@[simp] theorem o_field {s : TypeId} {a : Operand} {i : Nat} : aop P mf tb st ⟨d, .fieldAddr s a i, ty, pos, af, g⟩ = fieldA P s i (ev st a) := rfl
@[simp] theorem o_load {t : TypeId} {a : Operand} : aop P mf tb st ⟨d, .load t a, ty, pos, af, g⟩ = barIf (fl mf (ev st a)) (loadA P st t (ev st a)) := rfl
@[simp] theorem o_store {t : TypeId} {a v : Operand} : aop P mf tb st ⟨d, .store t a v, ty, pos, af, g⟩ = barIf (lateBad mf a (ev st a)) (storeA P st t (ev st a) (ev st v)) := rfl
@[simp] theorem o_build {t : TypeId} {l : List (Nat × Operand)} : aop P mf tb st ⟨d, .build t l.toArray, ty, pos, af, g⟩ = buildX P mf st t (l.map (·.1)) (l.map fun p => ev st p.2) := rfl
@[simp] theorem o_extr {i : Nat} {x : Operand} : aop P mf tb st ⟨d, .extract x i, ty, pos, af, g⟩ = extrA i (ev st x) := rfl
@[simp] theorem o_idx {t : TypeId} {x i : Operand} : aop P mf tb st ⟨d, .indexAddr t x i, ty, pos, af, g⟩ = barIf (fl mf (ev st x)) (idxA P st t (ev st x) (ev st i)) := by
  show barIf _ (match P.underlying t, ev st i with | some (.slice e), .dat (.lit (.int _ n)) => _ | some (.array m e), .dat (.lit (.int _ n)) => _ | _, _ => _) = _
  rfl
@[simp] theorem o_slice {t : TypeId} {x : Operand} {lo hi : Option Operand} : aop P mf tb st ⟨d, .slice t x lo hi none, ty, pos, af, g⟩ = barIf (fl mf (ev st x)) (sliceX P st t (ev st x) (lo.map (ev st)) (hi.map (ev st))) := rfl
@[simp] theorem o_make {t : TypeId} {l c : Operand} : aop P mf tb st ⟨d, .makeSlice t l c, ty, pos, af, g⟩ = mkSl P st d t (ev st l) (ev st c) := rfl
@[simp] theorem o_bsl {t : TypeId} {n : Nat} {l : List (Nat × Operand)} : aop P mf tb st ⟨d, .buildSlice t n l.toArray, ty, pos, af, g⟩ = bdSl P mf st d t n (l.map (·.1)) (l.map fun p => ev st p.2) := by
  show (match (mf (bld t) && n != 0) with | true => _ | false => _) = _
  unfold bdSl
  cases (mf (bld t) && n != 0) with
  | true => rfl
  | false =>
  simp only []
  cases d with
  | none => rfl
  | some k =>
    simp only []
    cases l with
    | nil => rfl
    | cons p l => rfl
def lenX (P : Program) (st : St) (t : TypeId) (x : X) : Out := match P.underlying t with
  | some (.slice _) => lenA st x
  | some .string => strLen x
  | _ => .bad
def callCB (st : St) (r : Prop × List D) (ps : List (D × Option Nat)) : Out := match r.2.all D.isLit with
  | true => ⟨r.1, resX r.2, []⟩
  | false => ⟨r.1 ∧ allFreeze st (owners ps), resX r.2, freezes st (owners ps)⟩
def callM (st : St) (r : Prop × List Rv × List D) (ids : List Nat) (ps : List (Ar × Option Nat)) (n : Nat) : Out :=
  ⟨r.1 ∧ ids.Nodup ∧ r.2.2.length = n ∧ allFreeze st (owners ps), resM ids r.2.1, freezes st (owners ps) ++ setBoxes st ids r.2.2⟩
def callWB (st : St) (sz sz' : Nat) (e e' : TypeId) (l : List D) (r : Prop × Option Wr × List D) (o lo n : Nat) (ps : List (D × Option Nat)) : Out :=
  ⟨r.1 ∧ sz' = sz ∧ e' = e ∧ 0 < l.length ∧ lo + n ≤ l.length ∧ (0 < n ∨ lo = 0) ∧ r.2.2.length = l.length ∧ o ∉ owners ps ∧ allFreeze st (owners ps),
        resW o r.2.1, freezes st (owners ps) ++ [(o, setRow (st.obj o) r.2.2)]⟩
def callOB (st : St) (sz : Nat) (e : TypeId) (r : Prop × List D) (s : Nat) (ps : List (D × Option Nat)) : Out :=
  ⟨r.1 ∧ allFreeze st (owners ps) ∧ st.obj s = none ∧ s < st.ob.length, .row s, freezes st (owners ps) ++ [(s, some (.row sz e r.2))]⟩
def callBB (st : St) (r : Prop × D) (s : Nat) (ps : List (D × Option Nat)) : Out :=
  ⟨r.1 ∧ allFreeze st (owners ps) ∧ st.obj s = none ∧ s < st.ob.length, .obj s [] 0, freezes st (owners ps) ++ [(s, some (.box r.2))]⟩
def callX (mf : FuncId → Bool) (c : Option Ct) (st : St) (dst : Option Nat) (f : FuncId) (xs : List X) : Out := match c with
  | some (.data g) => callC (mf f) st g xs
  | some (.win sz e g gd) => match mf f, xs with
    | true, x :: r => match winOf st x with
      | some (o, lo, n) => match asDatas st r with
        | some ps => match st.wrow? o with
          | some (sz', e', l) => callWB st sz sz' e e' l (g l lo n (ps.map (·.1))) o lo n ps
          | none => .bad
        | none => .bad
      | none => callC true st gd (x :: r)
    | true, [] => .bad
    | false, xs => callC false st gd xs
  | some (.own sz e g) => match mf f with
    | true => match dst, asDatas st xs with
      | some s, some ps => callOB st sz e (g (ps.map (·.1))) s ps
      | _, _ => .bad
    | false => .bad
  | some (.ownb g) => match mf f with
    | true => match dst, asDatas st xs with
      | some s, some ps => callBB st (g (ps.map (·.1))) s ps
      | _, _ => .bad
    | false => .bad
  | some (.mut md g) => match mf f with
    | false => .bad
    | true => match asArs st (refIds xs md) xs, boxesOf st (refIds xs md) with
      | some ps, some ds => callM st (g (ps.map (·.1)) ds) (refIds xs md) ps ds.length
      | _, _ => .bad
  | some (.mp t g) => match mf f with
    | true => callMp st t g xs
    | false => .bad
  | none => .bad
def mapA (st : St) (dst : Option Nat) (t : TypeId) : Out := match dst with
    | some k => ⟨st.obj k = none ∧ k < st.ob.length ∧ mapT t = true, .mpx k, [(k, some (.mp t []))]⟩
    | none => .bad
def rangeD (P : Program) (st : St) (dst : Option Nat) (t : TypeId) (x : X) : Out := match dst with
    | some d => rangeA P st t x d
    | none => .bad
@[simp] theorem o_insert {t : TypeId} {m k v : Operand} : aop P mf tb st ⟨d, .insert t m k v, ty, pos, af, g⟩ = insA P st t (ev st m) (ev st k) (ev st v) := rfl
@[simp] theorem o_range {t : TypeId} {x : Operand} : aop P mf tb st ⟨d, .range t x, ty, pos, af, g⟩ = rangeD P st d t (ev st x) := by cases d <;> rfl
@[simp] theorem o_entry {x : Operand} : aop P mf tb st ⟨d, .entry x, ty, pos, af, g⟩ = entryA st (ev st x) := rfl
@[simp] theorem o_next {x : Operand} : aop P mf tb st ⟨d, .next x true, ty, pos, af, g⟩ = nextA st (ev st x) := rfl
@[simp] theorem o_mkmap {t : TypeId} : aop P mf tb st ⟨d, .makeMap t none, ty, pos, af, g⟩ = mapA st d t := by cases d <;> rfl
@[simp] theorem callC_f {g : List D → Prop × List D} {xs : List X} : callC false st g xs = match datas xs with
      | some ds => ⟨(g ds).1, resX (g ds).2, []⟩
      | none => .bad := rfl
@[simp] theorem callC_t {g : List D → Prop × List D} {xs : List X} : callC true st g xs = match asDatas st xs with
      | some ps => callCB st (g (ps.map (·.1))) ps
      | none => .bad := by
  unfold callC callCB
  simp only []
  cases asDatas st xs with
  | none => rfl
  | some ps => simp only []; cases (g (ps.map (·.1))).2.all D.isLit <;> rfl
@[simp] theorem o_call {f : FuncId} {l : List Operand} {ts : Array TypeId} : aop P mf tb st ⟨d, .call ⟨.value (.func f), l.toArray, ts⟩, ty, pos, af, g⟩ = callX mf (tb f) st d f (l.map (ev st)) := by
  show callA mf tb st d f _ = _
  unfold callA callX callW callWB callM callO callOB callB callBB
  rcases tb f with _ | ⟨g⟩ | ⟨md, g⟩ | ⟨sz, e, g, gd⟩ | ⟨sz, e, g⟩ | ⟨g⟩ | ⟨t, g⟩ <;> simp <;> rfl
@[simp] theorem ev_func (st : St) (f : FuncId) : ev st (.func f) = .dat (.lit (.func (.func f) #[] #[])) := rfl
@[simp] theorem fnOf_lit (f : FuncId) : fnOf (.dat (.lit (.func (.func f) #[] #[]))) = some f := rfl
def callV (mf : FuncId → Bool) (tb : FuncId → Option Ct) (st : St) (dst : Option Nat) (co : Option (FuncId × List D)) (fo : Option FuncId) (xs : List X) : Out := match co with
  | some (f, cs) => callF (!mf fnp) tb st f cs xs
  | none => match fo with
    | some f => match mf fnp with
      | true => callF false tb st f [] xs
      | false => callX mf (tb f) st dst f xs
    | none => .bad
@[simp] theorem callV_some {mf : FuncId → Bool} {tb : FuncId → Option Ct} {st : St} {dst : Option Nat} {f : FuncId} {xs : List X} : callV mf tb st dst none (some f) xs = (match mf fnp with
      | true => callF false tb st f [] xs
      | false => callX mf (tb f) st dst f xs) := rfl
@[simp] theorem callV_clo {mf : FuncId → Bool} {tb : FuncId → Option Ct} {st : St} {dst : Option Nat} {f : FuncId} {cs : List D} {fo : Option FuncId} {xs : List X} : callV mf tb st dst (some (f, cs)) fo xs = callF (!mf fnp) tb st f cs xs := rfl
@[simp] theorem o_callT {t : Nat} {l : List Operand} {ts : Array TypeId} : aop P mf tb st ⟨d, .call ⟨.value (.tmp t), l.toArray, ts⟩, ty, pos, af, g⟩ = callV mf tb st d (cloOf (ev st (.tmp t))) (fnOf (ev st (.tmp t))) (l.map (ev st)) := by
  show (match cloOf (ev st (.tmp t)) with
    | some (f, cs) => callF (!mf fnp) tb st f cs (l.map (ev st))
    | none => match fnOf (ev st (.tmp t)) with
      | some f => callP mf tb st d f (l.map (ev st))
      | none => .bad) = _
  cases hc : cloOf (ev st (.tmp t)) with
  | some q => obtain ⟨f, cs⟩ := q; rfl
  | none =>
    cases h : fnOf (ev st (.tmp t)) with
    | none => rfl
    | some f =>
      show callP _ _ _ _ _ _ = (match mf fnp with
        | true => callF false tb st f [] (l.map (ev st))
        | false => callX mf (tb f) st d f (l.map (ev st)))
      unfold callP
      cases mf fnp with
      | true => rfl
      | false => exact o_call (P := P) (ty := ty) (pos := pos) (af := af) (g := g) (ts := ts)
@[simp] theorem o_mkf {fn : Fn} {l : List Operand} : aop P mf tb st ⟨d, .makeFunc fn #[] l.toArray, ty, pos, af, g⟩ = makeA st fn [] (l.map (ev st)) := rfl
@[simp] theorem o_len {x : Operand} {t : TypeId} : aop P mf tb st ⟨d, .call ⟨.builtin .len, [x].toArray, [t].toArray⟩, ty, pos, af, g⟩ = barIf (fl mf (ev st x)) (lenX P st t (ev st x)) := by
  unfold lenX
  simp only [aop, List.getElem?_toArray, List.getElem?_cons_zero, Option.bind_some]
  have hb : ∀ b, barIf b .bad = .bad := fun b => by cases b <;> rfl
  rcases P.underlying t with _ | u
  · exact (hb _).symm
  · cases u <;> first | rfl | exact (hb _).symm
@[simp] theorem o_max {x y : Operand} {ts : Array TypeId} : aop P mf tb st ⟨d, .call ⟨.builtin .max, [x, y].toArray, ts⟩, ty, pos, af, g⟩ = mmA true (ev st x) (ev st y) := rfl
@[simp] theorem o_min {x y : Operand} {ts : Array TypeId} : aop P mf tb st ⟨d, .call ⟨.builtin .min, [x, y].toArray, ts⟩, ty, pos, af, g⟩ = mmA false (ev st x) (ev st y) := rfl
@[simp] theorem o_app {x y : Operand} {t : TypeId} : aop P mf tb st ⟨d, .call ⟨.builtin .append, [x, y].toArray, [t, t].toArray⟩, ty, pos, af, g⟩ = barIf (appBad mf x (ev st x)) (appendA P st d t (ev st x) (ev st y)) := by
  show (if t = t then _ else _) = _
  simp
end
section
variable {mf : FuncId → Bool}
@[simp] theorem fl_any : fl mf .any = false := rfl
@[simp] theorem fl_und : fl mf .und = false := rfl
@[simp] theorem fl_dat {d : D} : fl mf (.dat d) = false := rfl
@[simp] theorem fl_obj {o f : Nat} {p : List Nat} : fl mf (.obj o p f) = mf (cel o) := by simp [fl, X.refs]
@[simp] theorem fl_row {o : Nat} : fl mf (.row o) = mf (cel o) := by simp [fl, X.refs]
@[simp] theorem fl_elt {o i f : Nat} {p : List Nat} : fl mf (.elt o i p f) = mf (cel o) := by simp [fl, X.refs]
@[simp] theorem fl_win {o i f : Nat} : fl mf (.win o i f) = mf (cel o) := by simp [fl, X.refs]
@[simp] theorem fl_arr {o i f : Nat} : fl mf (.arr o i f) = mf (cel o) := by simp [fl, X.refs]
@[simp] theorem fl_clo {f : FuncId} {cs : List D} : fl mf (.clo f cs) = false := rfl
end
def bAnd (k : IntKind) (x y : Int) : Int := k.wrap (BitVec.ofInt k.bits x &&& BitVec.ofInt k.bits y).toNat
def bOr (k : IntKind) (x y : Int) : Int := k.wrap (BitVec.ofInt k.bits x ||| BitVec.ofInt k.bits y).toNat
def bXor (k : IntKind) (x y : Int) : Int := k.wrap (BitVec.ofInt k.bits x ^^^ BitVec.ofInt k.bits y).toNat
def bAnn (k : IntKind) (x y : Int) : Int := k.wrap (BitVec.ofInt k.bits x &&& ~~~(BitVec.ofInt k.bits y)).toNat
def bNot (k : IntKind) (x : Int) : Int := k.wrap (BitVec.ofInt k.bits (if k.signed then -1 else k.max) ^^^ BitVec.ofInt k.bits x).toNat
def fok (op : BinOp) (k : FloatKind) (x y : Nat) : Prop := (floatBits op k x y).isSome = true
def fv (op : BinOp) (k : FloatKind) (x y : Nat) : Nat := (floatBits op k x y).getD 0
def feq (k : FloatKind) (x y : Nat) : Bool := k.format.order x y == some .eq
def flt (k : FloatKind) (x y : Nat) : Bool := k.format.order x y == some .lt
def fgt (k : FloatKind) (x y : Nat) : Bool := k.format.order x y == some .gt
def fneg (k : FloatKind) (x : Nat) : Nat := Op.negFloat k x
section
variable {k : IntKind} {x y : Int}
@[simp] theorem i_add : intOp .add k x y = ⟨True, .dat (.lit (.int k (k.wrap (x + y)))), []⟩ := rfl
@[simp] theorem i_sub : intOp .sub k x y = ⟨True, .dat (.lit (.int k (k.wrap (x - y)))), []⟩ := rfl
@[simp] theorem i_mul : intOp .mul k x y = ⟨True, .dat (.lit (.int k (k.wrap (x * y)))), []⟩ := rfl
@[simp] theorem i_quo : intOp .quo k x y = ⟨y ≠ 0, .dat (.lit (.int k (k.wrap (x.tdiv y)))), []⟩ := rfl
@[simp] theorem i_rem : intOp .rem k x y = ⟨y ≠ 0, .dat (.lit (.int k (x.tmod y))), []⟩ := rfl
@[simp] theorem i_eql : intOp .eql k x y = ⟨True, .dat (.lit (.bool (decide (x = y)))), []⟩ := rfl
@[simp] theorem i_neq : intOp .neq k x y = ⟨True, .dat (.lit (.bool (!decide (x = y)))), []⟩ := rfl
@[simp] theorem i_lss : intOp .lss k x y = ⟨True, .dat (.lit (.bool (decide (x < y)))), []⟩ := rfl
@[simp] theorem i_leq : intOp .leq k x y = ⟨True, .dat (.lit (.bool (decide (x ≤ y)))), []⟩ := rfl
@[simp] theorem i_gtr : intOp .gtr k x y = ⟨True, .dat (.lit (.bool (decide (y < x)))), []⟩ := rfl
@[simp] theorem i_geq : intOp .geq k x y = ⟨True, .dat (.lit (.bool (decide (y ≤ x)))), []⟩ := rfl
@[simp] theorem i_and : intOp .and k x y = ⟨True, .dat (.lit (.int k (bAnd k x y))), []⟩ := rfl
@[simp] theorem i_or : intOp .or k x y = ⟨True, .dat (.lit (.int k (bOr k x y))), []⟩ := rfl
@[simp] theorem i_xor : intOp .xor k x y = ⟨True, .dat (.lit (.int k (bXor k x y))), []⟩ := rfl
@[simp] theorem i_ann : intOp .andNot k x y = ⟨True, .dat (.lit (.int k (bAnn k x y))), []⟩ := rfl
@[simp] theorem i_shl : intOp .shl k x y = ⟨0 ≤ y, .dat (.lit (.int k (k.wrap (x * 2 ^ min y.toNat k.bits)))), []⟩ := rfl
@[simp] theorem i_shr : intOp .shr k x y = ⟨0 ≤ y, .dat (.lit (.int k (x.fdiv (2 ^ min y.toNat k.bits)))), []⟩ := rfl
@[simp] theorem fo_add {x y : Nat} {k : FloatKind} : floatOp .add k x y = ⟨fok .add k x y, .dat (.lit (.float k (fv .add k x y))), []⟩ := rfl
@[simp] theorem fo_sub {x y : Nat} {k : FloatKind} : floatOp .sub k x y = ⟨fok .sub k x y, .dat (.lit (.float k (fv .sub k x y))), []⟩ := rfl
@[simp] theorem fo_mul {x y : Nat} {k : FloatKind} : floatOp .mul k x y = ⟨fok .mul k x y, .dat (.lit (.float k (fv .mul k x y))), []⟩ := rfl
@[simp] theorem fo_quo {x y : Nat} {k : FloatKind} : floatOp .quo k x y = ⟨fok .quo k x y, .dat (.lit (.float k (fv .quo k x y))), []⟩ := rfl
@[simp] theorem fo_eql {x y : Nat} {k : FloatKind} : floatOp .eql k x y = ⟨True, .dat (.lit (.bool (feq k x y))), []⟩ := rfl
@[simp] theorem fo_neq {x y : Nat} {k : FloatKind} : floatOp .neq k x y = ⟨True, .dat (.lit (.bool (!feq k x y))), []⟩ := rfl
@[simp] theorem fo_lss {x y : Nat} {k : FloatKind} : floatOp .lss k x y = ⟨True, .dat (.lit (.bool (flt k x y))), []⟩ := rfl
@[simp] theorem fo_gtr {x y : Nat} {k : FloatKind} : floatOp .gtr k x y = ⟨True, .dat (.lit (.bool (fgt k x y))), []⟩ := rfl
@[simp] theorem u_negF {x : Nat} {k : FloatKind} : unA .neg (.dat (.lit (.float k x))) = ⟨True, .dat (.lit (.float k (fneg k x))), []⟩ := rfl
@[simp] theorem u_neg : unA .neg (.dat (.lit (.int k x))) = ⟨True, .dat (.lit (.int k (k.wrap (0 - x)))), []⟩ := rfl
@[simp] theorem u_xor : unA .xor (.dat (.lit (.int k x))) = ⟨True, .dat (.lit (.int k (bNot k x))), []⟩ := rfl
@[simp] theorem u_not {b : Bool} : unA .not (.dat (.lit (.bool b))) = ⟨True, .dat (.lit (.bool (!b))), []⟩ := rfl
end
theorem toNat_ofInt_nat (w n : Nat) (h : n < 2 ^ w) : (BitVec.ofInt w (n : Int)).toNat = n := by
  rw [BitVec.ofInt_natCast, BitVec.toNat_ofNat, Nat.mod_eq_of_lt h]
theorem bAnd32 (x y : Nat) (hx : x < 4294967296) (hy : y < 4294967296) : bAnd .u32 x y = ((x &&& y : Nat) : Int) := by
  unfold bAnd
  rw [BitVec.toNat_and, toNat_ofInt_nat _ _ hx, toNat_ofInt_nat _ _ hy]
  have := Nat.and_lt_two_pow (n := 32) x hy
  simp only [IntKind.wrap, IntKind.signed, IntKind.bits]; simp; omega
theorem bOr32 (x y : Nat) (hx : x < 4294967296) (hy : y < 4294967296) : bOr .u32 x y = ((x ||| y : Nat) : Int) := by
  unfold bOr
  rw [BitVec.toNat_or, toNat_ofInt_nat _ _ hx, toNat_ofInt_nat _ _ hy]
  have := Nat.or_lt_two_pow (n := 32) hx hy
  simp only [IntKind.wrap, IntKind.signed, IntKind.bits]; simp; omega
theorem bXor32 (x y : Nat) (hx : x < 4294967296) (hy : y < 4294967296) : bXor .u32 x y = ((x ^^^ y : Nat) : Int) := by
  unfold bXor
  rw [BitVec.toNat_xor, toNat_ofInt_nat _ _ hx, toNat_ofInt_nat _ _ hy]
  have := Nat.xor_lt_two_pow (n := 32) hx hy
  simp only [IntKind.wrap, IntKind.signed, IntKind.bits]; simp; omega
theorem bOr64 (x y : Nat) (hx : x < 18446744073709551616) (hy : y < 18446744073709551616) : bOr .u64 x y = ((x ||| y : Nat) : Int) := by
  unfold bOr
  rw [BitVec.toNat_or, toNat_ofInt_nat _ _ hx, toNat_ofInt_nat _ _ hy]
  have := Nat.or_lt_two_pow (n := 64) hx hy
  simp only [IntKind.wrap, IntKind.signed, IntKind.bits]; simp; omega
theorem bAnd64 (x y : Nat) (hx : x < 18446744073709551616) (hy : y < 18446744073709551616) : bAnd .u64 x y = ((x &&& y : Nat) : Int) := by
  unfold bAnd
  rw [BitVec.toNat_and, toNat_ofInt_nat _ _ hx, toNat_ofInt_nat _ _ hy]
  have := Nat.and_lt_two_pow (n := 64) x hy
  simp only [IntKind.wrap, IntKind.signed, IntKind.bits]; simp; omega
theorem bNot32 (x : Nat) (hx : x < 4294967296) : bNot .u32 x = ((4294967295 - x : Nat) : Int) := by
  have e1 : BitVec.ofInt 32 4294967295 = BitVec.allOnes 32 := by decide
  have e : bNot .u32 x = IntKind.u32.wrap ((BitVec.ofInt 32 4294967295 ^^^ BitVec.ofInt 32 (x : Int)).toNat : Int) := rfl
  rw [e, e1, BitVec.allOnes_xor, BitVec.toNat_not, toNat_ofInt_nat _ _ hx]
  simp only [IntKind.wrap, IntKind.signed, IntKind.bits]; simp; omega
@[simp] theorem fdiv_lit (n : Int) (m : Nat) : n.fdiv (no_index (OfNat.ofNat m)) = n / (OfNat.ofNat m) := Int.fdiv_eq_ediv_of_nonneg _ (Int.natCast_nonneg m)
attribute [simp] strLen strSl callMp St.mp? mapA rangeD insA rangeA entryA nextA isNx nxW keysOk keyIs dValue litsOf valD flatV mapT itK itS mfR gd St.box? St.wbox? St.row? St.drow? setBox Out.bad Out.lit nav upd D.size D.sizes nsz nagg isAggT datas resX mkIds mkOp NoRefs X.refs lenA strIdx binA mmA pickA lenX callCB callM callWB callOB callBB callX callF makeA buildO cloOf fnIs fnp winOf St.wrow? setRow resW convX strA strc rowb strOp bytesDs convA nilA boxA allocA fieldA loadA storeA buildX extrA idxA sliceX mkSl bdSl RvSubs RvSub BoxSubs refineC loB hiB startAr endK retA resD litD litOk asDatas asData owners freezes freeze allFreeze St.mayFreeze D.isLit refIds asArs boxesOf setBoxes resM resWk endW Rv.to Rv.x buildA partsOk zeros putAll fits appendA elems arrEl onto Value.oneCell' bld cel regroup regs rega flatD flatDs lateBad barIf Rv.refs appBad
@[simp] theorem vc_int (k : IntKind) (n : Int) : (Value.int k n).cells = #[.int k n] := rfl
@[simp] theorem vc_bool (b : Bool) : (Value.bool b).cells = #[.bool b] := rfl
@[simp] theorem vc_float (k : FloatKind) (n : Nat) : (Value.float k n).cells = #[.float k n] := rfl
@[simp] theorem vc_string (s : ByteArray) : (Value.string s).cells = #[.string s] := rfl
@[simp] theorem vc_ptr (a : Option Addr) : (Value.pointer a).cells = #[.pointer a] := rfl
@[simp] theorem vc_slice (a : Option Addr) (l c : Nat) : (Value.slice a l c).cells = #[.slice a l c] := rfl
@[simp] theorem vc_map (a : Option Nat) : (Value.map a).cells = #[.map a] := rfl
@[simp] theorem vc_nilFunc : (Value.nilFunc).cells = #[.nilFunc] := rfl
@[simp] theorem vc_nilIface : (Value.nilIface).cells = #[.nilIface] := rfl
@[simp] theorem vc_agg (cs : Array Value) : (Value.agg cs).cells = cs := rfl
@[simp] theorem agg_lit (v : Value) : (D.lit v).isAgg = false := rfl
@[simp] theorem agg_agg (ds : List D) : (D.agg ds).isAgg = true := rfl
@[simp] theorem agg_sl (n : Nat) (ds : List D) : (D.sl n ds).isAgg = false := rfl
@[simp] theorem agg_ptr (d : D) : (D.ptr d).isAgg = false := rfl
@[simp] theorem start_mk (n : Nat) (xs : List Ar) (ds : List D) : start n xs ds = ⟨xs.map (startAr n) ++ nX (n - xs.length), nO n ++ ds.map fun d => some (.pbox d)⟩ := rfl
@[simp] theorem sub_nil (sz : Nat) : Sub (.lit (.slice none 0 0)) (.sl sz []) = True := by simp [Sub.nil]
@[simp] theorem sub_refl (d : D) : Sub d d ↔ True := ⟨fun _ => trivial, fun _ => Sub.refl d⟩
def dg (k : Nat) : D := .lit (.int .u32 (k : Int))
def eW (ds : List Nat) : D := .sl 1 (ds.map dg)
def eM (n : Nat) : D := eW (mag n)
theorem dg_inj {a b : Nat} (h : dg a = dg b) : a = b := by
  unfold dg at h; injection h with h; injection h with _ h; exact Int.ofNat.inj h
theorem map_dg_inj : ∀ {a b : List Nat}, a.map dg = b.map dg → a = b
  | [], [], _ => rfl
  | x :: a, y :: b, h => by
    simp only [List.map_cons, List.cons.injEq] at h
    rw [dg_inj h.1, map_dg_inj h.2]
  | [], _ :: _, h => by simp at h
  | _ :: _, [], h => by simp at h
theorem eW_inj {a b : List Nat} (h : eW a = eW b) : a = b := by
  unfold eW at h; injection h with _ h; exact map_dg_inj h
theorem eM_inj {a b : Nat} (h : eM a = eM b) : a = b := mag_inj (eW_inj h)
@[simp] theorem dg_size (k : Nat) : (dg k).size = 1 := rfl
@[simp] theorem dg_agg (k : Nat) : (dg k).isAgg = false := rfl
@[simp] theorem eW_size (k : List Nat) : (eW k).size = 1 := rfl
@[simp] theorem eW_agg (k : List Nat) : (eW k).isAgg = false := rfl
@[simp] theorem eM_size (k : Nat) : (eM k).size = 1 := rfl
@[simp] theorem eM_agg (k : Nat) : (eM k).isAgg = false := rfl
theorem dg_at (a : List Nat) (i : Nat) (h : i < a.length) : (a.map dg)[i]? = some (dg (a.getD i 0)) := by
  rw [List.getElem?_map, List.getElem?_eq_getElem h, List.getD_eq_getElem?_getD, List.getElem?_eq_getElem h]; rfl
theorem ix_dg (a : List Nat) (i : Nat) (h : i < a.length) : ix (a.map dg) i = some (dg (a.getD i 0)) := dg_at a i h
section
variable {α : Type} {e : α → List D} {pre : α → Prop} {post : α → List D}
open Classical in
noncomputable def ctD (e : α → List D) (pre : α → Prop) (post : α → List D) : List D → Prop × List D := fun ds =>
  if h : ∃ a, e a = ds then (pre h.choose, post h.choose) else (False, [])
theorem ctD_at (inj : ∀ a b, e a = e b → a = b) (a : α) : ctD e pre post (e a) = (pre a, post a) := by
  unfold ctD
  have h : ∃ b, e b = e a := ⟨a, rfl⟩
  rw [dif_pos h, inj _ _ h.choose_spec]
theorem ctD_pre {ds : List D} (h : (ctD e pre post ds).1) : ∃ a, ds = e a ∧ pre a ∧ ctD e pre post ds = (pre a, post a) := by
  unfold ctD at h ⊢
  by_cases hh : ∃ a, e a = ds
  · rw [dif_pos hh] at h ⊢
    exact ⟨_, hh.choose_spec.symm, h, rfl⟩
  · rw [dif_neg hh] at h
    exact h.elim
end
section
variable {α : Type} {e : α → List Ar × List D} {pre : α → Prop} {post : α → List Rv × List D}
open Classical in
noncomputable def ctM (e : α → List Ar × List D) (pre : α → Prop) (post : α → List Rv × List D) : List Ar → List D → Prop × List Rv × List D := fun xs ds =>
  if h : ∃ a, e a = (xs, ds) then (pre h.choose, post h.choose) else (False, [], [])
theorem ctM_at (inj : ∀ a b, e a = e b → a = b) (a : α) : ctM e pre post (e a).1 (e a).2 = (pre a, post a) := by
  unfold ctM
  have h : ∃ b, e b = ((e a).1, (e a).2) := ⟨a, rfl⟩
  rw [dif_pos h, inj _ _ h.choose_spec]
theorem ctM_pre {xs : List Ar} {ds : List D} (h : (ctM e pre post xs ds).1) : ∃ a, xs = (e a).1 ∧ ds = (e a).2 ∧ pre a ∧ ctM e pre post xs ds = (pre a, post a) := by
  unfold ctM at h ⊢
  by_cases hh : ∃ a, e a = (xs, ds)
  · rw [dif_pos hh] at h ⊢
    have hs := hh.choose_spec
    exact ⟨_, (congrArg (·.1) hs).symm, (congrArg (·.2) hs).symm, h, rfl⟩
  · rw [dif_neg hh] at h
    exact h.elim
end
def tbl (l : List (FuncId × Ct)) (f : FuncId) : Option Ct := (l.find? (fun p => p.1 == f)).map (·.2)
variable {N : NR}
theorem tbl_nil : TbOK N Try.prog (tbl []) := fun f c h => by simp [tbl] at h
theorem tbl_cons {f : FuncId} {c : Ct} {l : List (FuncId × Ct)} (h : CtOK N Try.prog f c) (hc : callable Try.prog f = true) (hl : TbOK N Try.prog (tbl l)) : TbOK N Try.prog (tbl ((f, c) :: l)) := fun g d hg => by
  unfold tbl at hg
  rw [List.find?_cons] at hg
  by_cases e : f = g
  · subst e
    simp at hg
    subst hg
    exact ⟨h, hc⟩
  · have : ((f, c).1 == g) = false := by simpa using e
    rw [this] at hg
    exact hl g d hg
@[simp] theorem tbl_hit {f : FuncId} {c : Ct} {l : List (FuncId × Ct)} : tbl ((f, c) :: l) f = some c := by simp [tbl]
theorem rdD {α : Type} {e : α → List D} {pre : α → Prop} {post : α → List D} {f : FuncId} {fn : Func} {c : Code} {mf : FuncId → Bool} {tb : FuncId → Option Ct} (htb : TbOK N Try.prog tb) (hf : Try.prog.funcs[f]? = some fn) (hb : fn.body = some c) (hd : drawAll mf c = true)
    (h : ∀ a, pre a → (e a).length ≤ fn.ntmps ∧ awp Try.prog mf tb c (start fn.ntmps ((e a).map .dat) []) (endK Try.prog fn.ntmps fn.results.toList ((post a).map .dat) [])) : SpecD N Try.prog f (ctD e pre post) := by
  refine specD_of hf hb (fun ds hp => ?_)
  obtain ⟨a, rfl, h1, h2⟩ := ctD_pre hp
  rw [h2]
  exact ⟨(h a h1).1, awp_sound htb mo _ _ _ hd (h a h1).2⟩
theorem rdM {α : Type} {e : α → List Ar × List D} {pre : α → Prop} {post : α → List Rv × List D} {f : FuncId} {fn : Func} {c : Code} {mf : FuncId → Bool} {tb : FuncId → Option Ct} (htb : TbOK N Try.prog tb) (hf : Try.prog.funcs[f]? = some fn) (hb : fn.body = some c) (hd : drawAll mf c = true)
    (h : ∀ a, pre a → (e a).1.length ≤ fn.ntmps ∧ (post a).2.length = (e a).2.length ∧ awp Try.prog mf tb c (start fn.ntmps (e a).1 (e a).2) (endK Try.prog fn.ntmps fn.results.toList (post a).1 (post a).2)) : SpecM N Try.prog f (ctM e pre post) := by
  refine specM_of hf hb (fun xs ds hp => ?_)
  obtain ⟨a, rfl, rfl, h1, h2⟩ := ctM_pre hp
  rw [h2]
  exact ⟨(h a h1).1, (h a h1).2.1, awp_sound htb mo _ _ _ hd (h a h1).2.2⟩
def Nx (I : Nat → St → Prop) (n : Nat) (s : St) : Prop := ∃ m s'', m < n ∧ Snd s s'' ∧ I m s''
theorem loop_go {P : Program} {mf : FuncId → Bool} {tb : FuncId → Option Ct} {x : Code} {st : St} {K : Exit → St → Prop} (I : Nat → St → Prop) {n : Nat} {s0 : St} (h0 : Snd st s0) (hn : I n s0)
    (hx : ∀ n s, I n s → ∀ KN : St → Prop, (∀ s', Nx I n s' → KN s') → awp P mf tb x s (Klp KN K)) : awp P mf tb (.loop x) st K :=
  ⟨I, ⟨n, s0, h0, hn⟩, fun n s hi => hx n s hi _ (fun s' h => h)⟩
theorem nx {I : Nat → St → Prop} {n m : Nat} {s s'' : St} (h : Snd s s'') (hi : I m s'') (hm : m < n) : Nx I n s := ⟨m, s'', hm, h, hi⟩
@[simp] theorem bits_u64 : IntKind.u64.bits = 64 := rfl
@[simp] theorem bits_i64 : IntKind.i64.bits = 64 := rfl
@[simp] theorem bits_u32 : IntKind.u32.bits = 32 := rfl
@[simp] theorem cells_u32 (n : Int) : (Value.int .u32 n).cells.size = 1 := rfl
theorem wrap_u64 (n : Int) : IntKind.u64.wrap n = n % 18446744073709551616 := by simp [IntKind.wrap, IntKind.signed, IntKind.bits]
theorem wrap_u32 (n : Int) : IntKind.u32.wrap n = n % 4294967296 := by simp [IntKind.wrap, IntKind.signed, IntKind.bits]
theorem wrap_i64 (n : Int) : IntKind.i64.wrap n = (n + 9223372036854775808) % 18446744073709551616 - 9223372036854775808 := IntKind.wrap_i64 n
theorem i64_id (n : Int) (h0 : -9223372036854775808 ≤ n) (h1 : n ≤ 9223372036854775807) : IntKind.i64.wrap n = n := by rw [wrap_i64]; omega
@[simp] theorem int_lt_succ (a : Int) : (a < a + 1) = True := by simp; omega
@[simp] theorem int_le_succ (a : Int) : (a ≤ a + 1) = True := by simp; omega
theorem maxLen_ge : 35184372088832 ≤ maxLen := by decide
theorem cut32 (e : Int) (t : Nat) (he : e = t) : ∃ c d : Nat, d < B ∧ d + B * c = t ∧ IntKind.u32.wrap e = d ∧ e / 4294967296 = c := by
  refine ⟨t / B, t % B, Nat.mod_lt _ B_pos, Nat.mod_add_div t B, ?_, ?_⟩
  · rw [wrap_u32, he]; show _ = ((t % 4294967296 : Nat) : Int); omega
  · rw [he]; show _ = ((t / 4294967296 : Nat) : Int); omega
end Go.Proofs.Ytpggfnggffedlaa.Ae

namespace Go.Proofs.Ytpggfnggffedlaa.Ae
open Go Go.RowKit Go.Proofs.Ytpggfnggffedlaa.Dig
variable {N : NR}
structure Ds where
  ds : List Nat
  ok : Digs ds
theorem Ds.ext {a b : Ds} (h : a.ds = b.ds) : a = b := by cases a; cases b; simp at h; subst h; rfl
def trimE (a : Ds) : List D := [eW a.ds]
theorem trimE_inj (a b : Ds) (h : trimE a = trimE b) : a = b := Ds.ext (eW_inj (by simpa [trimE] using h))
noncomputable def trimC := ctD trimE (fun a => a.ds.length < 2 ^ 62) (fun a => [eM (val a.ds)])
theorem trimC_at (ds : List Nat) (h : Digs ds) : trimC [eW ds] = (ds.length < 2 ^ 62, [eM (val ds)]) := ctD_at trimE_inj ⟨ds, h⟩
def trimS (xs : List Nat) : St := ⟨[.dat (eW xs), .any, .any, .any, .any, .any, .any, .any, .any, .any, .any, .any, .any, .any, .any, .any, .any, .any, .any, .any, .any], [none, none, none, none, none, none, none, none, none, none, none, none, none, none, none, none, none, none, none, none, none]⟩
theorem trimC_at' (ds : List Nat) (h : Digs ds) : trimC [.sl 1 (ds.map dg)] = (ds.length < 2 ^ 62, [.sl 1 ((mag (val ds)).map dg)]) := trimC_at ds h
theorem trimmed_spec : SpecD N Try.prog 143 trimC := by
  refine rdD (mf := fun _ => false) tbl_nil (fn := Try.f143) (by kernel_rfl) rfl (by kernel_rfl) ?_
  rintro ⟨ds, hd⟩ hlen
  refine ⟨by show 1 ≤ 21; decide, ?_⟩
  simp only [trimE, Try.f143]
  simp [List.replicate]
  refine loop_go (fun n s => ∃ xs : List Nat, n = xs.length ∧ xs.length < 2 ^ 62 ∧ Digs xs ∧ val xs = val ds ∧ s = trimS xs) (s0 := trimS ds) (snd_of (by simp [LeT, trimS]) rfl) ⟨ds, rfl, hlen, hd, rfl, rfl⟩ ?_
  rintro n s ⟨xs, rfl, hl, hx, hv, rfl⟩ KN hN
  rcases List.eq_nil_or_concat xs with rfl | ⟨ys, y, rfl⟩
  · simp [trimS, eW]
    rw [← hv]; simp [val, eM, mag_zero, eW]
  · rw [List.concat_eq_append] at *
    have hl' : ys.length + 1 < 2 ^ 62 := by simpa using hl
    have e1 : IntKind.i64.wrap (((ys ++ [y]).length : Int) - 1) = ys.length := by simp [wrap_i64]; omega
    have e2 : ix (List.map dg (ys ++ [y])) ys.length = some (dg y) := by simp [ix]
    have e3 : lsub ((ys ++ [y]).map dg) 0 ys.length = ys.map dg := by simp [lsub]
    generalize hxs : ys ++ [y] = xs at *
    have e4 : (0 : Int) < xs.length := by rw [← hxs]; simp
    have e5 : ys.length ≤ xs.length := by rw [← hxs]; simp
    simp [trimS, eW, e1, e2, e3, e4, e5, dg]
    have hne : xs ≠ [] := by rw [← hxs]; simp
    refine ⟨fun _ => ⟨fun hy => hN _ (nx (s'' := trimS ys) (m := ys.length) (snd_of (by simp [LeT, trimS, eW]) rfl) ⟨ys, rfl, by omega, ?_, ?_, rfl⟩ (by rw [← hxs]; simp)), fun hy => ?_⟩, fun h => absurd h hne⟩
    · rw [← hxs] at hx; exact hx.left
    · rw [← hv, ← hxs, hy, val_snoc_zero]
    · rw [← hv, ← hxs] at *
      rw [eM, mag_val_snoc hx hy]
      exact Sub.refl _
theorem trimmed_ok : callable Try.prog 143 = true := by kernel_rfl
end Go.Proofs.Ytpggfnggffedlaa.Ae

namespace Go.Proofs.Ytpggfnggffedlaa.Ae
open Go Go.RowKit Go.Proofs.Ytpggfnggffedlaa.Dig
variable {N : NR}
structure N2 where
  a : Nat
  b : Nat
def n2E (p : N2) : List D := [eM p.a, eM p.b]
theorem n2E_inj (p q : N2) (h : n2E p = n2E q) : p = q := by
  obtain ⟨a, b⟩ := p; obtain ⟨c, d⟩ := q
  simp only [n2E, List.cons.injEq, and_true] at h
  rw [eM_inj h.1, eM_inj h.2]
def Sm (n : Nat) : Prop := (mag n).length < 2 ^ 40
noncomputable def addC := ctD n2E (fun p => Sm p.a ∧ Sm p.b) (fun p => [eM (p.a + p.b)])
theorem addC_at (a b : Nat) : addC [eM a, eM b] = (Sm a ∧ Sm b, [eM (a + b)]) := ctD_at n2E_inj ⟨a, b⟩
def z32 : D := .lit (.int .u32 0)
def addS (a b : Nat) (os : List Nat) (c k : Nat) : St := ⟨[.dat (eM a), .dat (eM b), .any, .any, .any, .row 14, .dat (.lit (.int .u64 c)), .any, .any, .any, .any, .any, .any, .any, .any, .any, .dat (.lit (.int .i64 ((os.length + k : Nat) : Int))), .dat (.lit (.int .i64 os.length)), .any, .any, .any, .any, .any, .any, .any, .any, .any, .any, .any, .any, .any, .any, .any, .any, .any, .any, .any, .any, .any, .any, .any, .any, .any, .any, .any, .any, .any, .any, .any, .any, .any, .any], [none, none, none, none, none, none, none, none, none, none, none, none, none, none, some (.row 1 195 (os.map dg ++ List.replicate k z32)), none, none, none, none, none, none, none, none, none, none, none, none, none, none, none, none, none, none, none, none, none, none, none, none, none, none, none, none, none, none, none, none, none, none, none, none, none]⟩
theorem addMag_spec : SpecD N Try.prog 136 addC := by
  refine rdD (mf := fun f => f == 143) (tbl_cons (c := .data trimC) trimmed_spec trimmed_ok tbl_nil) (fn := Try.f136) (by kernel_rfl) rfl (by kernel_rfl) ?_
  rintro ⟨a, b⟩ ⟨ha, hb⟩
  refine ⟨by show 2 ≤ 52; decide, ?_⟩
  simp only [n2E, Try.f136]
  simp only [Sm] at ha hb
  obtain ⟨m, hm, hm'⟩ : ∃ m : Nat, IntKind.i64.wrap ((if (mag a).length < (mag b).length then ((mag b).length : Int) else (mag a).length) + 1) = m ∧ m = max (mag a).length (mag b).length + 1 :=
    ⟨_, by rw [wrap_i64]; split <;> omega, rfl⟩
  have hm1 : m ≤ 2 ^ 40 := by omega
  simp [eM, eW, hm]
  refine ⟨by omega, ?_⟩
  refine loop_go (fun n s => ∃ (os : List Nat) (c : Nat), Digs os ∧ c ≤ 1 ∧ val os + B ^ os.length * c = val ((mag a).take os.length) + val ((mag b).take os.length) ∧ os.length + n = m ∧ s = addS a b os c n) (s0 := addS a b [] 0 m) (n := m)
    (snd_of (by simp [LeT, addS, eM, eW]) (by simp [addS, z32])) ⟨[], 0, Digs.nil, by omega, by simp [val], by simp, rfl⟩ ?_
  rintro n s ⟨os, c, hos, hc, hv, hl, rfl⟩ KN hN
  cases n with
  | zero =>
    have hvl := val_lt hos
    have e1 : val os = a + b := by
      rw [val_take_all _ _ (by omega), val_take_all _ _ (by omega), val_mag, val_mag] at hv
      have h1 : a < B ^ (mag a).length := mag_lt.1 (Nat.le_refl _)
      have h2 : b < B ^ (mag b).length := mag_lt.1 (Nat.le_refl _)
      have h3 : B ^ (mag a).length ≤ B ^ (os.length - 1) := Nat.pow_le_pow_right B_pos (by omega)
      have h4 : B ^ (mag b).length ≤ B ^ (os.length - 1) := Nat.pow_le_pow_right B_pos (by omega)
      have h5 : B ^ os.length = B ^ (os.length - 1) * B := by rw [← Nat.pow_succ]; congr 1; omega
      have h6 : B ^ (os.length - 1) * 2 ≤ B ^ (os.length - 1) * B := Nat.mul_le_mul_left _ (by decide)
      rcases Nat.le_one_iff_eq_zero_or_eq_one.1 hc with rfl | rfl
      · omega
      · omega
    have e2 : os.length < 2 ^ 62 := by omega
    simp [addS, eM, eW, trimC_at' os hos, e1]
    simpa using e2
  | succ k =>
    obtain ⟨x, hx⟩ : ∃ x, x = (mag a).getD os.length 0 := ⟨_, rfl⟩
    obtain ⟨y, hy⟩ : ∃ y, y = (mag b).getD os.length 0 := ⟨_, rfl⟩
    have hxB : x < 4294967296 := by rw [hx]; exact getD_lt (mag_digs a) _
    have hyB : y < 4294967296 := by rw [hy]; exact getD_lt (mag_digs b) _
    have r1 : IntKind.u64.wrap (x : Int) = x := by rw [wrap_u64]; omega
    have r2 : IntKind.u64.wrap (y : Int) = y := by rw [wrap_u64]; omega
    have r3 : IntKind.u64.wrap ((c : Int) + x) = c + x := by rw [wrap_u64]; omega
    have r4 : IntKind.u64.wrap ((c : Int) + x + y) = c + x + y := by rw [wrap_u64]; omega
    have r5 : IntKind.u64.wrap ((c : Int) + y) = c + y := by rw [wrap_u64]; omega
    have r6 : IntKind.i64.wrap ((os.length : Int) + 1) = os.length + 1 := by rw [wrap_i64]; omega
    have r7 : (os.length : Int) < os.length + (k + 1) := by omega
    have step : ∀ (c' d : Nat), d < B → d + B * c' = c + x + y → ∀ s', Snd s' (addS a b (os ++ [d]) c' k) → KN s' := by
      intro c' d hd ht s' hs
      refine hN _ (nx hs ⟨_, _, hos.append (Digs.nil.cons hd), ?_, ?_, ?_, rfl⟩ (by omega))
      · simp only [B] at ht; omega
      · rw [val_snoc, List.length_append, List.length_singleton, val_take_getD, val_take_getD, ← hx, ← hy, Nat.pow_succ, Nat.mul_assoc, Nat.add_assoc, ← Nat.mul_add, ht]
        simp only [Nat.mul_add]
        omega
      · rw [List.length_append, List.length_singleton]; omega
    have e0 : ∀ v : D, lset (List.map dg os ++ List.replicate (k + 1) z32) os.length v = List.map dg os ++ v :: List.replicate k z32 := fun v => by
      have h : os.length = (List.map dg os).length := by simp
      rw [List.replicate_succ]; unfold lset; rw [h, List.set_append_right _ _ (Nat.le_refl _), Nat.sub_self]; rfl
    have e9 : ix (List.map dg os ++ List.replicate (k + 1) z32) os.length = some z32 := by
      have h : os.length = (List.map dg os).length := by simp
      unfold ix; rw [h, List.getElem?_append_right (Nat.le_refl _), Nat.sub_self]; rfl
    have fin : ∀ (e : Int), e = ((c + x + y : Nat) : Int) → ∃ c' d : Nat, IntKind.u32.wrap e = d ∧ e / 4294967296 = c' ∧ ∀ s', Snd s' (addS a b (os ++ [d]) c' k) → KN s' := fun e he => by
      obtain ⟨c', d, h1, h2, h3, h4⟩ := cut32 e _ he
      exact ⟨c', d, h3, h4, step c' d h1 h2⟩
    by_cases ha' : os.length < (mag a).length <;> by_cases hb' : os.length < (mag b).length
    · have e1 := ix_dg _ _ ha'
      have e2 := ix_dg _ _ hb'
      rw [← hx] at e1
      rw [← hy] at e2
      obtain ⟨c', d, h1, h2, h3⟩ := fin (c + x + y) (by omega)
      simp [addS, eM, eW, ha', hb', e1, e2, e0, e9, dg, r1, r2, r3, r4, r5, r6, r7, h1, h2]
      exact ⟨⟨rfl, rfl⟩, h3 _ (snd_of (by simp [LeT, addS, eM, eW]; omega) (by simp [addS, dg]))⟩
    · have e1 := ix_dg _ _ ha'
      rw [← hx] at e1
      have hy0 : y = 0 := by rw [hy]; exact getD_out _ _ hb'
      obtain ⟨c', d, h1, h2, h3⟩ := fin (c + x) (by omega)
      simp [addS, eM, eW, ha', hb', e1, e0, e9, dg, r1, r2, r3, r4, r5, r6, r7, h1, h2]
      exact ⟨⟨rfl, rfl⟩, h3 _ (snd_of (by simp [LeT, addS, eM, eW]; omega) (by simp [addS, dg]))⟩
    · have e2 := ix_dg _ _ hb'
      rw [← hy] at e2
      have hx0 : x = 0 := by rw [hx]; exact getD_out _ _ ha'
      obtain ⟨c', d, h1, h2, h3⟩ := fin (c + y) (by omega)
      simp [addS, eM, eW, ha', hb', e2, e0, e9, dg, r1, r2, r3, r4, r5, r6, r7, h1, h2]
      exact ⟨⟨rfl, rfl⟩, h3 _ (snd_of (by simp [LeT, addS, eM, eW]; omega) (by simp [addS, dg]))⟩
    · have hx0 : x = 0 := by rw [hx]; exact getD_out _ _ ha'
      have hy0 : y = 0 := by rw [hy]; exact getD_out _ _ hb'
      obtain ⟨c', d, h1, h2, h3⟩ := fin c (by omega)
      simp [addS, eM, eW, ha', hb', e0, e9, dg, r1, r2, r3, r4, r5, r6, r7, h1, h2]
      exact ⟨⟨rfl, rfl⟩, h3 _ (snd_of (by simp [LeT, addS, eM, eW]; omega) (by simp [addS, dg]))⟩
theorem addMag_ok : callable Try.prog 136 = true := by kernel_rfl
end Go.Proofs.Ytpggfnggffedlaa.Ae

namespace Go.Proofs.Ytpggfnggffedlaa.Ae
open Go Go.RowKit Go.Proofs.Ytpggfnggffedlaa.Dig
variable {N : NR}
noncomputable def cmpV (a b : Nat) : Int := if (mag a).length = (mag b).length then (if a < b then -1 else if b < a then 1 else 0) else ((mag a).length : Int) - (mag b).length
theorem cmpV_neg {a b : Nat} : cmpV a b < 0 ↔ a < b := by
  unfold cmpV
  split
  · repeat' split
    all_goals omega
  · rename_i h
    constructor
    · intro h1; exact mag_len_lt (by omega)
    · intro h1; have := mag_len_le (Nat.le_of_lt h1); omega
theorem cmpV_pos {a b : Nat} : 0 < cmpV a b ↔ b < a := by
  unfold cmpV
  split
  · repeat' split
    all_goals omega
  · rename_i h
    constructor
    · intro h1; exact mag_len_lt (by omega)
    · intro h1; have := mag_len_le (Nat.le_of_lt h1); omega
theorem cmpV_zero {a b : Nat} : cmpV a b = 0 ↔ a = b := by
  constructor
  · intro h
    have h1 := @cmpV_neg a b
    have h2 := @cmpV_pos a b
    omega
  · rintro rfl; unfold cmpV; simp
theorem cmpV_len {a b : Nat} (h : (mag a).length ≠ (mag b).length) : cmpV a b = ((mag a).length : Int) - (mag b).length := by unfold cmpV; rw [if_neg h]
noncomputable def cmpC := ctD n2E (fun p => Sm p.a ∧ Sm p.b) (fun p => [.lit (.int .i64 (cmpV p.a p.b))])
theorem cmpC_at (a b : Nat) : cmpC [eM a, eM b] = (Sm a ∧ Sm b, [.lit (.int .i64 (cmpV a b))]) := ctD_at n2E_inj ⟨a, b⟩
def cmpS (a b : Nat) (n : Nat) : St := ⟨[.dat (eM a), .dat (eM b), .any, .any, .any, .dat (.lit (.int .i64 ((n : Int) - 1))), .any, .any, .any, .any, .any, .any, .any, .any, .any, .any, .any, .any, .any, .any, .any, .any, .any, .any, .any, .any, .any, .any, .any, .any, .any, .any, .any, .any, .any, .any, .any, .any, .any, .any, .any, .any, .any], [none, none, none, none, none, none, none, none, none, none, none, none, none, none, none, none, none, none, none, none, none, none, none, none, none, none, none, none, none, none, none, none, none, none, none, none, none, none, none, none, none, none, none]⟩
theorem drop_step {a b : List Nat} {k : Nat} (ha : k < a.length) (hb : k < b.length) (h : a.drop (k + 1) = b.drop (k + 1)) (e : a.getD k 0 = b.getD k 0) : a.drop k = b.drop k := by
  rw [List.drop_eq_getElem_cons ha, List.drop_eq_getElem_cons hb, h]
  congr 1
  rw [List.getD_eq_getElem?_getD, List.getElem?_eq_getElem ha, List.getD_eq_getElem?_getD, List.getElem?_eq_getElem hb] at e
  exact e
theorem getD_some {a : List Nat} {k : Nat} (ha : k < a.length) : a[k]? = some (a.getD k 0) := by
  rw [List.getD_eq_getElem?_getD, List.getElem?_eq_getElem ha]; rfl
theorem cmpMag_spec : SpecD N Try.prog 137 cmpC := by
  refine rdD (mf := fun _ => false) tbl_nil (fn := Try.f137) (by kernel_rfl) rfl (by kernel_rfl) ?_
  rintro ⟨a, b⟩ ⟨ha, hb⟩
  refine ⟨by show 2 ≤ 43; decide, ?_⟩
  simp only [n2E, Try.f137]
  simp only [Sm] at ha hb
  have r1 : IntKind.i64.wrap (((mag a).length : Int) - (mag b).length) = (mag a).length - (mag b).length := by rw [wrap_i64]; omega
  have r2 : IntKind.i64.wrap (((mag a).length : Int) - 1) = (mag a).length - 1 := by rw [wrap_i64]; omega
  have r3 : IntKind.i64.wrap (((mag b).length : Int) - 1) = (mag b).length - 1 := by rw [wrap_i64]; omega
  simp [eM, eW, r1, r2, r3]
  refine ⟨fun h => ?_, fun h => ?_⟩
  · rw [cmpV_len (by omega)]; exact Sub.refl _
  have hlen : (mag a).length = (mag b).length := by omega
  refine loop_go (fun n s => n ≤ (mag a).length ∧ (mag a).drop n = (mag b).drop n ∧ s = cmpS a b n) (s0 := cmpS a b (mag a).length) (n := (mag a).length)
    (snd_of (by simp [LeT, cmpS, eM, eW]) (by simp [cmpS])) ⟨Nat.le_refl _, by rw [List.drop_eq_nil_of_le (Nat.le_refl _), List.drop_eq_nil_of_le (by omega)], rfl⟩ ?_
  rintro n s ⟨hn, hd, rfl⟩ KN hN
  cases n with
  | zero =>
    have e : a = b := mag_inj (by simpa using hd)
    have e0 : cmpV a b = 0 := cmpV_zero.2 e
    simp [cmpS, eM, eW, e0]
  | succ k =>
    obtain ⟨x, hx⟩ : ∃ x, x = (mag a).getD k 0 := ⟨_, rfl⟩
    obtain ⟨y, hy⟩ : ∃ y, y = (mag b).getD k 0 := ⟨_, rfl⟩
    have hka : k < (mag a).length := by omega
    have hkb : k < (mag b).length := by omega
    have e1 := ix_dg _ _ hka
    have e2 := ix_dg _ _ hkb
    rw [← hx] at e1
    rw [← hy] at e2
    have r4 : IntKind.i64.wrap ((k : Int) - 1) = (k : Int) - 1 := by rw [wrap_i64]; omega
    have l1 : x < y → a < b := fun h => by
      have := val_cmp (mag_digs a) (mag_digs b) hlen (by rw [getD_some hka, hx]) (by rw [getD_some hkb, hy]) hd h
      rwa [val_mag, val_mag] at this
    have l2 : y < x → b < a := fun h => by
      have := val_cmp (mag_digs b) (mag_digs a) hlen.symm (by rw [getD_some hkb, hy]) (by rw [getD_some hka, hx]) hd.symm h
      rwa [val_mag, val_mag] at this
    simp [cmpS, eM, eW, e1, e2, dg, r4]
    refine ⟨fun h => ?_, fun h => ⟨fun h' => ?_, fun h' => ?_⟩⟩
    · have : cmpV a b = -1 := by unfold cmpV; rw [if_pos hlen, if_pos (l1 (by omega))]
      rw [this]; exact Sub.refl _
    · have h3 := l2 (by omega)
      have : cmpV a b = 1 := by unfold cmpV; rw [if_pos hlen, if_neg (by omega), if_pos h3]
      rw [this]; exact Sub.refl _
    · exact hN _ (nx (s'' := cmpS a b k) (snd_of (by simp [LeT, cmpS, eM, eW]) (by simp [cmpS])) ⟨by omega, drop_step hka hkb hd (by rw [← hx, ← hy]; omega), rfl⟩ (by omega))
theorem cmpMag_ok : callable Try.prog 137 = true := by kernel_rfl
end Go.Proofs.Ytpggfnggffedlaa.Ae

namespace Go.Proofs.Ytpggfnggffedlaa.Ae
open Go Go.RowKit Go.Proofs.Ytpggfnggffedlaa.Dig
variable {N : NR}
structure N3 where
  x : Nat
  y : Nat
  b : Nat
def n3E (p : N3) : List D := [dg p.x, dg p.y, dg p.b]
theorem n3E_inj (p q : N3) (h : n3E p = n3E q) : p = q := by
  obtain ⟨a, b, c⟩ := p; obtain ⟨d, e, f⟩ := q
  simp only [n3E, List.cons.injEq, and_true] at h
  rw [dg_inj h.1, dg_inj h.2.1, dg_inj h.2.2]
noncomputable def sub32C := ctD n3E (fun p => p.x < B ∧ p.y < B ∧ p.b ≤ 1) (fun p => [dg ((p.x + B - p.y - p.b) % B), dg (if p.x < p.y + p.b then 1 else 0)])
theorem sub32C_at (x y b : Nat) : sub32C [dg x, dg y, dg b] = ((x < B ∧ y < B ∧ b ≤ 1), [dg ((x + B - y - b) % B), dg (if x < y + b then 1 else 0)]) := ctD_at n3E_inj ⟨x, y, b⟩
noncomputable def add32C := ctD n3E (fun p => p.x < B ∧ p.y < B ∧ p.b ≤ 1) (fun p => [dg ((p.x + p.y + p.b) % B), dg ((p.x + p.y + p.b) / B)])
theorem add32C_at (x y b : Nat) : add32C [dg x, dg y, dg b] = ((x < B ∧ y < B ∧ b ≤ 1), [dg ((x + y + b) % B), dg ((x + y + b) / B)]) := ctD_at n3E_inj ⟨x, y, b⟩
theorem top_bit (n : Nat) (h : n < 2 ^ 32) : n.testBit 31 = decide (2147483648 ≤ n) := by
  rw [Nat.testBit_eq_decide_div_mod_eq]
  by_cases h1 : 2147483648 ≤ n
  · have : n / 2 ^ 31 = 1 := by omega
    simp [this, h1]
  · have : n / 2 ^ 31 = 0 := by omega
    simp [this, h1]
theorem div_top (n : Nat) (h : n < 2 ^ 32) : n / 2147483648 = if n.testBit 31 then 1 else 0 := by
  rw [top_bit n h]
  by_cases h1 : 2147483648 ≤ n
  · simp only [h1, decide_true, if_true]; omega
  · simp only [h1, decide_false]; simp; omega
theorem borrow_bits (x y b d : Nat) (hx : x < 4294967296) (hy : y < 4294967296) (hb : b ≤ 1) (hd : d = (x + 4294967296 - y - b) % 4294967296) :
    ((((4294967295 - x) &&& y) ||| ((4294967295 - (x ^^^ y)) &&& d)) / 2147483648) = if x < y + b then 1 else 0 := by
  have hxy : x ^^^ y < 2 ^ 32 := Nat.xor_lt_two_pow (n := 32) hx hy
  have hd' : d < 2 ^ 32 := by rw [hd]; exact Nat.mod_lt _ (by decide)
  have h1 : ((4294967295 - x) &&& y) < 2 ^ 32 := Nat.and_lt_two_pow (n := 32) _ hy
  have h2 : ((4294967295 - (x ^^^ y)) &&& d) < 2 ^ 32 := Nat.and_lt_two_pow (n := 32) _ hd'
  rw [div_top _ (Nat.or_lt_two_pow (n := 32) h1 h2)]
  have e1 : (4294967295 - x).testBit 31 = !x.testBit 31 := by
    rw [top_bit _ (by omega), top_bit _ hx]
    by_cases h : 2147483648 ≤ x
    · have : ¬ 2147483648 ≤ 4294967295 - x := by omega
      simp [h, this]
    · have : 2147483648 ≤ 4294967295 - x := by omega
      simp [h, this]
  have e2 : (4294967295 - (x ^^^ y)).testBit 31 = !(x ^^^ y).testBit 31 := by
    rw [top_bit _ (by omega), top_bit _ hxy]
    by_cases h : 2147483648 ≤ x ^^^ y
    · have : ¬ 2147483648 ≤ 4294967295 - (x ^^^ y) := by omega
      simp [h, this]
    · have : 2147483648 ≤ 4294967295 - (x ^^^ y) := by omega
      simp [h, this]
  rw [Nat.testBit_or, Nat.testBit_and, Nat.testBit_and, e1, e2, Nat.testBit_xor, top_bit x hx, top_bit y hy, top_bit d hd']
  by_cases c1 : 2147483648 ≤ x <;> by_cases c2 : 2147483648 ≤ y <;> by_cases c3 : 2147483648 ≤ d <;> by_cases c4 : x < y + b <;> simp [c1, c2, c3, c4] <;> omega
theorem sub32_spec : SpecD N Try.prog 146 sub32C := by
  refine rdD (mf := fun _ => false) tbl_nil (fn := Try.f146) (by kernel_rfl) rfl (by kernel_rfl) ?_
  rintro ⟨x, y, b⟩ ⟨hx, hy, hb⟩
  refine ⟨by show 3 ≤ 25; decide, ?_⟩
  simp only [B] at hx hy hb
  obtain ⟨d, hd⟩ : ∃ d : Nat, d = (x + B - y - b) % B := ⟨_, rfl⟩
  have hd' : d < 4294967296 := by rw [hd]; exact Nat.mod_lt _ B_pos
  have hxy : x ^^^ y < 4294967296 := Nat.xor_lt_two_pow (n := 32) hx hy
  have r1 : IntKind.u32.wrap (IntKind.u32.wrap ((x : Int) - y) - b) = d := by rw [wrap_u32, wrap_u32, hd]; simp only [B]; omega
  have r2 := bNot32 x hx
  have r3 := bAnd32 (4294967295 - x) y (by omega) hy
  have r4 := bXor32 x y hx hy
  have r5 := bNot32 (x ^^^ y) hxy
  have r6 := bAnd32 (4294967295 - (x ^^^ y)) d (by omega) hd'
  have r7 := bOr32 ((4294967295 - x) &&& y) ((4294967295 - (x ^^^ y)) &&& d) (Nat.and_lt_two_pow (n := 32) _ hy) (Nat.and_lt_two_pow (n := 32) _ hd')
  have r8 := borrow_bits x y b d hx hy hb hd
  generalize 4294967295 - x = p at *
  generalize 4294967295 - (x ^^^ y) = q at *
  generalize hbo : (if x < y + b then 1 else 0) = bo at *
  have r9 : (((p &&& y ||| q &&& d : Nat) : Int)) / 2147483648 = bo := by rw [← r8]; exact (Int.natCast_ediv _ _).symm
  simp only [n3E, Try.f146]
  rw [← hd]
  simp [dg, r1, r2, r3, r4, r5, r6, r7, r9]
theorem add32_spec : SpecD N Try.prog 155 add32C := by
  refine rdD (mf := fun _ => false) tbl_nil (fn := Try.f155) (by kernel_rfl) rfl (by kernel_rfl) ?_
  rintro ⟨x, y, b⟩ ⟨hx, hy, hb⟩
  refine ⟨by show 3 ≤ 22; decide, ?_⟩
  simp only [B] at hx hy hb
  obtain ⟨c, d, hd, ht, w1, w2⟩ := cut32 ((x : Int) + y + b) (x + y + b) (by omega)
  have h1 : (x + y + b) % B = d := by rw [← ht, Nat.add_mul_mod_self_left]; exact Nat.mod_eq_of_lt hd
  have h2 : (x + y + b) / B = c := by rw [← ht, Nat.add_mul_div_left _ _ B_pos, Nat.div_eq_of_lt hd, Nat.zero_add]
  have r1 : IntKind.u64.wrap (x : Int) = x := by rw [wrap_u64]; omega
  have r2 : IntKind.u64.wrap (y : Int) = y := by rw [wrap_u64]; omega
  have r3 : IntKind.u64.wrap (b : Int) = b := by rw [wrap_u64]; omega
  have r4 : IntKind.u64.wrap ((x : Int) + y) = x + y := by rw [wrap_u64]; omega
  have r5 : IntKind.u64.wrap ((x : Int) + y + b) = x + y + b := by rw [wrap_u64]; omega
  have r6 : IntKind.u32.wrap (c : Int) = c := by
    simp only [B] at ht
    rw [wrap_u32]; omega
  simp only [n3E, Try.f155, h1, h2]
  simp [dg, r1, r2, r3, r4, r5, r6, w1, w2]
theorem sub32_ok : callable Try.prog 146 = true := by kernel_rfl
theorem add32_ok : callable Try.prog 155 = true := by kernel_rfl
end Go.Proofs.Ytpggfnggffedlaa.Ae

namespace Go.Proofs.Ytpggfnggffedlaa.Ae
open Go Go.RowKit Go.Proofs.Ytpggfnggffedlaa.Dig
variable {N : NR}
theorem ix_mid (os : List Nat) (z : D) (k : Nat) : ix (List.map dg os ++ List.replicate (k + 1) z) os.length = some z := by
  have h : os.length = (List.map dg os).length := by simp
  unfold ix; rw [h, List.getElem?_append_right (Nat.le_refl _), Nat.sub_self]; rfl
theorem lset_mid (os : List Nat) (z : D) (k : Nat) (v : D) : lset (List.map dg os ++ List.replicate (k + 1) z) os.length v = List.map dg os ++ v :: List.replicate k z := by
  have h : os.length = (List.map dg os).length := by simp
  rw [List.replicate_succ]; unfold lset; rw [h, List.set_append_right _ _ (Nat.le_refl _), Nat.sub_self]; rfl
noncomputable def subC := ctD n2E (fun p => Sm p.a ∧ Sm p.b ∧ p.b ≤ p.a) (fun p => [eM (p.a - p.b)])
theorem subC_at (a b : Nat) : subC [eM a, eM b] = (Sm a ∧ Sm b ∧ b ≤ a, [eM (a - b)]) := ctD_at n2E_inj ⟨a, b⟩
def subS (a b : Nat) (os : List Nat) (c k : Nat) : St := ⟨[.dat (eM a), .dat (eM b), .any, .any, .any, .row 12, .dat (.lit (.int .u32 c)), .any, .any, .any, .any, .any, .any, .dat (eM a), .dat (.lit (.int .i64 ((os.length + k : Nat) : Int))), .dat (.lit (.int .i64 os.length)), .any, .any, .any, .any, .any, .any, .any, .any, .any, .any, .any, .any, .any, .any, .any, .any, .any, .any, .any, .any, .any, .any, .any, .any, .any], [none, none, none, none, none, none, none, none, none, none, none, none, some (.row 1 195 (os.map dg ++ List.replicate k z32)), none, none, none, none, none, none, none, none, none, none, none, none, none, none, none, none, none, none, none, none, none, none, none, none, none, none, none, none]⟩
theorem borrow_eq (x y b : Nat) (hx : x < B) (hy : y < B) (hb : b ≤ 1) : (x + B - y - b) % B + y + b = x + B * (if x < y + b then 1 else 0) := by
  split
  · rw [Nat.mod_eq_of_lt (by omega)]; omega
  · have : x + B - y - b = (x - y - b) + B * 1 := by omega
    rw [this, Nat.add_mul_mod_self_left, Nat.mod_eq_of_lt (by omega)]; omega
theorem subMag_spec : SpecD N Try.prog 138 subC := by
  refine rdD (mf := fun f => f == 143) (tbl_cons (f := 143) (c := .data trimC) trimmed_spec trimmed_ok (tbl_cons (f := 146) (c := .data sub32C) sub32_spec sub32_ok tbl_nil)) (fn := Try.f138) (by kernel_rfl) rfl (by kernel_rfl) ?_
  rintro ⟨a, b⟩ ⟨ha, hb, hab⟩
  refine ⟨by show 2 ≤ 41; decide, ?_⟩
  simp only [n2E, Try.f138]
  simp only [Sm] at ha hb
  have hab : b ≤ a := hab
  have hle : (mag b).length ≤ (mag a).length := mag_len_le hab
  have t1 : tbl [(143, Ct.data trimC), (146, .data sub32C)] 146 = some (.data sub32C) := rfl
  simp [eM, eW]
  refine ⟨by omega, ?_⟩
  refine loop_go (fun n s => ∃ (os : List Nat) (c : Nat), Digs os ∧ c ≤ 1 ∧ val os + val ((mag b).take os.length) = val ((mag a).take os.length) + B ^ os.length * c ∧ os.length + n = (mag a).length ∧ s = subS a b os c n) (s0 := subS a b [] 0 (mag a).length) (n := (mag a).length)
    (snd_of (by simp [LeT, subS, eM, eW]) (by simp [subS, z32])) ⟨[], 0, Digs.nil, by omega, by simp [val], by simp, rfl⟩ ?_
  rintro n s ⟨os, c, hos, hc, hv, hl, rfl⟩ KN hN
  cases n with
  | zero =>
    have hvl := val_lt hos
    have e1 : val os = a - b := by
      rw [val_take_all _ _ (by omega), val_take_all _ _ (by omega), val_mag, val_mag] at hv
      rcases Nat.le_one_iff_eq_zero_or_eq_one.1 hc with rfl | rfl
      · omega
      · omega
    have e2 : os.length < 2 ^ 62 := by omega
    simp [subS, eM, eW, trimC_at' os hos, e1]
    simpa using e2
  | succ k =>
    obtain ⟨x, hx⟩ : ∃ x, x = (mag a).getD os.length 0 := ⟨_, rfl⟩
    obtain ⟨y, hy⟩ : ∃ y, y = (mag b).getD os.length 0 := ⟨_, rfl⟩
    have hxB : x < B := by rw [hx]; exact getD_lt (mag_digs a) _
    have hyB : y < B := by rw [hy]; exact getD_lt (mag_digs b) _
    have ha' : os.length < (mag a).length := by omega
    have e1 := ix_dg _ _ ha'
    rw [← hx] at e1
    have r6 : IntKind.i64.wrap ((os.length : Int) + 1) = os.length + 1 := by rw [wrap_i64]; omega
    have r7 : (os.length : Int) < os.length + (k + 1) := by omega
    have s1 := sub32C_at x y c
    obtain ⟨d, hd⟩ : ∃ d : Nat, d = (x + B - y - c) % B := ⟨_, rfl⟩
    obtain ⟨c', hc'⟩ : ∃ c' : Nat, c' = if x < y + c then 1 else 0 := ⟨_, rfl⟩
    have hcut : d + y + c = x + B * c' := by rw [hd, hc']; exact borrow_eq x y c hxB hyB hc
    rw [← hd, ← hc'] at s1
    simp only [dg, hxB, hyB, hc, and_self] at s1
    have step : ∀ s', Snd s' (subS a b (os ++ [d]) c' k) → KN s' := by
      intro s' hs
      refine hN _ (nx hs ⟨_, _, hos.append (Digs.nil.cons (by rw [hd]; exact Nat.mod_lt _ B_pos)), ?_, ?_, ?_, rfl⟩ (by omega))
      · rw [hc']; split <;> omega
      · rw [val_snoc, List.length_append, List.length_singleton, val_take_getD, val_take_getD, ← hx, ← hy, Nat.pow_succ, Nat.mul_assoc]
        have h1 := congrArg (B ^ os.length * ·) hcut
        simp only [Nat.mul_add] at h1
        omega
      · rw [List.length_append, List.length_singleton]; omega
    by_cases hb' : os.length < (mag b).length
    · have e2 := ix_dg _ _ hb'
      rw [← hy] at e2
      simp [subS, eM, eW, hb', e1, e2, ix_mid, lset_mid, dg, r6, r7, t1, s1]
      exact ⟨⟨rfl, rfl⟩, step _ (snd_of (by simp [LeT, subS, eM, eW]; omega) (by simp [subS, dg]))⟩
    · have hy0 : y = 0 := by rw [hy]; exact getD_out _ _ hb'
      rw [hy0] at s1
      simp at s1
      simp [subS, eM, eW, hb', e1, ix_mid, lset_mid, dg, r6, r7, t1, s1]
      exact ⟨⟨rfl, rfl⟩, step _ (snd_of (by simp [LeT, subS, eM, eW]; omega) (by simp [subS, dg]))⟩
theorem subMag_ok : callable Try.prog 138 = true := by kernel_rfl
end Go.Proofs.Ytpggfnggffedlaa.Ae

namespace Go.Proofs.Ytpggfnggffedlaa.Ae
open Go Go.RowKit Go.Proofs.Ytpggfnggffedlaa.Dig
variable {N : NR}
theorem ix_left (os : List Nat) (r : List D) (j : Nat) (h : j < os.length) : ix (List.map dg os ++ r) j = some (dg (os.getD j 0)) := by
  unfold ix; rw [List.getElem?_append_left (by simpa using h)]; exact dg_at os j h
theorem lset_left (os : List Nat) (r : List D) (j d : Nat) (h : j < os.length) : lset (List.map dg os ++ r) j (.lit (.int .u32 (d : Int))) = List.map dg (os.set j d) ++ r := by
  unfold lset; rw [List.set_append_left _ _ (by simpa using h), List.map_set]; rfl
noncomputable def mulC := ctD n2E (fun p => Sm p.a ∧ Sm p.b) (fun p => [eM (p.a * p.b)])
theorem mulC_at (a b : Nat) : mulC [eM a, eM b] = (Sm a ∧ Sm b, [eM (a * b)]) := ctD_at n2E_inj ⟨a, b⟩
def mulS (a b : Nat) (os : List Nat) (i k : Nat) : St := ⟨[.dat (eM a), .dat (eM b), .any, .any, .any, .row 16, .any, .any, .any, .any, .any, .any, .any, .any, .any, .any, .any, .dat (eM a), .dat (.lit (.int .i64 (mag a).length)), .dat (.lit (.int .i64 i)), .any, .any, .any, .any, .any, .any, .any, .any, .any, .any, .any, .any, .any, .any, .any, .any, .any, .any, .any, .any, .any, .any, .any, .any, .any, .any, .any, .any, .any, .any, .any, .any, .any, .any, .any, .any, .any, .any, .any, .any, .any, .any, .any, .any, .any, .any, .any], [none, none, none, none, none, none, none, none, none, none, none, none, none, none, none, none, some (.row 1 195 (os.map dg ++ List.replicate k z32)), none, none, none, none, none, none, none, none, none, none, none, none, none, none, none, none, none, none, none, none, none, none, none, none, none, none, none, none, none, none, none, none, none, none, none, none, none, none, none, none, none, none, none, none, none, none, none, none, none, none]⟩
def mulT (a b : Nat) (os : List Nat) (i k x c j : Nat) : St := ⟨[.dat (eM a), .dat (eM b), .any, .any, .any, .row 16, .dat (.lit (.int .i64 i)), .dat (.lit (.int .u32 x)), .dat (.lit (.int .u64 c)), .any, .any, .any, .any, .any, .any, .any, .any, .dat (eM a), .dat (.lit (.int .i64 (mag a).length)), .dat (.lit (.int .i64 i)), .any, .any, .any, .any, .dat (eM b), .dat (.lit (.int .i64 (mag b).length)), .dat (.lit (.int .i64 j)), .any, .any, .any, .any, .any, .any, .any, .any, .any, .any, .any, .any, .any, .any, .any, .any, .any, .any, .any, .any, .any, .any, .any, .any, .any, .any, .any, .any, .any, .any, .any, .any, .any, .any, .any, .any, .any, .any, .any, .any], [none, none, none, none, none, none, none, none, none, none, none, none, none, none, none, none, some (.row 1 195 (os.map dg ++ List.replicate k z32)), none, none, none, none, none, none, none, none, none, none, none, none, none, none, none, none, none, none, none, none, none, none, none, none, none, none, none, none, none, none, none, none, none, none, none, none, none, none, none, none, none, none, none, none, none, none, none, none, none, none]⟩
theorem mul_step (P Q x y o c d c' : Nat) (os os' : Nat) (h1 : os' + P * Q * o = os + P * Q * d) (h2 : d + B * c' = c + (x * y + o)) : os' + P * (Q * B) * c' = os + P * Q * c + P * x * (Q * y) := by
  have h3 := congrArg (P * Q * ·) h2
  simp only [Nat.mul_add] at h3
  have e1 : P * (Q * B) * c' = P * Q * (B * c') := by simp only [Nat.mul_assoc]
  have e2 : P * x * (Q * y) = P * Q * (x * y) := by simp only [Nat.mul_assoc, Nat.mul_left_comm]
  rw [e1, e2]
  omega
theorem mulMag_spec : SpecD N Try.prog 132 mulC := by
  refine rdD (mf := fun f => f == 143) (tbl_cons (f := 143) (c := .data trimC) trimmed_spec trimmed_ok tbl_nil) (fn := Try.f132) (by kernel_rfl) rfl (by kernel_rfl) ?_
  rintro ⟨a, b⟩ ⟨ha, hb⟩
  refine ⟨by show 2 ≤ 67; decide, ?_⟩
  simp only [n2E, Try.f132]
  simp only [Sm] at ha hb
  have r1 : IntKind.i64.wrap (((mag a).length : Int) + (mag b).length) = ((mag a).length + (mag b).length : Nat) := by rw [wrap_i64]; omega
  have r0 : (((mag a).length : Int) + (mag b).length).toNat = (mag a).length + (mag b).length := by omega
  simp [eM, eW, r1, r0]
  refine ⟨by omega, ?_⟩
  refine loop_go (fun n s => ∃ (os : List Nat) (i : Nat), Digs os ∧ os.length = i + (mag b).length ∧ i + n = (mag a).length ∧ val os = val ((mag a).take i) * b ∧ s = mulS a b os i n) (s0 := mulS a b (List.replicate (mag b).length 0) 0 (mag a).length) (n := (mag a).length)
    (snd_of (by simp [LeT, mulS, eM, eW]) (by
      have e : List.map dg (List.replicate (mag b).length 0) ++ List.replicate (mag a).length z32 = List.replicate ((mag a).length + (mag b).length) (D.lit (.int .u32 0)) := by
        rw [List.map_replicate, Nat.add_comm]; exact List.replicate_append_replicate
      simp only [mulS, e])) ⟨_, 0, Digs.zeros _, by simp, by simp, by simp [val_zeros, val], rfl⟩ ?_
  rintro n s ⟨os, i, hos, hol, hl, hv, rfl⟩ KN hN
  cases n with
  | zero =>
    have e1 : val os = a * b := by rw [hv, val_take_all _ _ (by omega), val_mag]
    have e2 : os.length < 2 ^ 62 := by omega
    have e3 : (i : Int) = (mag a).length := by omega
    simp [mulS, eM, eW, trimC_at' os hos, e1, e3]
    simpa using e2
  | succ k =>
    obtain ⟨x, hx⟩ : ∃ x, x = (mag a).getD i 0 := ⟨_, rfl⟩
    have hxB : x < 4294967296 := by rw [hx]; exact getD_lt (mag_digs a) _
    have hia : i < (mag a).length := by omega
    have e1 := ix_dg _ _ hia
    rw [← hx] at e1
    have r6 : IntKind.i64.wrap ((i : Int) + 1) = i + 1 := by rw [wrap_i64]; omega
    have r7 : (i : Int) < (mag a).length := by omega
    simp [mulS, eM, eW, e1, r7, dg]
    refine loop_go (fun n s => ∃ (os' : List Nat) (j c : Nat), Digs os' ∧ os'.length = i + (mag b).length ∧ j + n = (mag b).length ∧ c < B ∧ val os' + B ^ i * B ^ j * c = val os + B ^ i * x * val ((mag b).take j) ∧ s = mulT a b os' i (k + 1) x c j) (s0 := mulT a b os i (k + 1) x 0 0) (n := (mag b).length)
      (snd_of (by simp [LeT, mulT, eM, eW]) (by simp [mulT, dg, List.replicate_succ])) ⟨os, 0, 0, hos, hol, by simp, B_pos, by simp [val], rfl⟩ ?_
    rintro m s ⟨os', j, c, hos', hol', hjl, hc, hv', rfl⟩ KM hM
    cases m with
    | zero =>
      have e2 : (j : Int) = (mag b).length := by omega
      have r8 : IntKind.i64.wrap ((i : Int) + (mag b).length) = (os'.length : Int) := by rw [wrap_i64]; omega
      have r9 : IntKind.u32.wrap (c : Int) = c := by
        simp only [B] at hc
        rw [wrap_u32]; omega
      have r10 : (os'.length : Int) < os'.length + (k + 1) := by omega
      simp [mulT, eM, eW, e2, r6, r8, r9, r10, ix_mid, lset_mid]
      refine ⟨⟨rfl, rfl⟩, hN _ (nx (s'' := mulS a b (os' ++ [c]) (i + 1) k) (snd_of (by simp [LeT, mulS, eM, eW]) (by simp [mulS, dg])) ⟨_, _, hos'.append (Digs.nil.cons hc), ?_, ?_, ?_, rfl⟩ (by omega))⟩
      · simp only [List.length_append, List.length_singleton]; omega
      · omega
      · have hv2 := hv'
        rw [val_take_all _ _ (by omega : (mag b).length ≤ j), val_mag, hv] at hv2
        rw [val_snoc, hol', Nat.pow_add, val_take_getD, ← hx, Nat.add_mul]
        have : j = (mag b).length := by omega
        rw [← this]
        exact hv2
    | succ m =>
      obtain ⟨y, hy⟩ : ∃ y, y = (mag b).getD j 0 := ⟨_, rfl⟩
      have hyB : y < B := by rw [hy]; exact getD_lt (mag_digs b) _
      have hjb : j < (mag b).length := by omega
      have e2 := ix_dg _ _ hjb
      rw [← hy] at e2
      have hij : i + j < os'.length := by omega
      obtain ⟨o, ho⟩ : ∃ o, o = os'.getD (i + j) 0 := ⟨_, rfl⟩
      have hoB : o < B := by rw [ho]; exact getD_lt hos' _
      have e3 := ix_left os' (List.replicate (k + 1) z32) (i + j) hij
      rw [← ho] at e3
      have hxy : x * y ≤ 4294967295 * 4294967295 := by
        simp only [B] at hyB
        exact Nat.mul_le_mul (by omega) (by omega)
      simp only [B] at hyB hoB hc
      have q1 : IntKind.u64.wrap (x : Int) = x := by rw [wrap_u64]; omega
      have q2 : IntKind.u64.wrap (y : Int) = y := by rw [wrap_u64]; omega
      have q3 : IntKind.u64.wrap (o : Int) = o := by rw [wrap_u64]; omega
      obtain ⟨p, hp⟩ : ∃ p, p = x * y := ⟨_, rfl⟩
      have hp' : (x : Int) * y = p := by rw [hp]; exact (Int.natCast_mul _ _).symm
      have q4 : IntKind.u64.wrap (p : Int) = p := by rw [wrap_u64]; omega
      have q5 : IntKind.u64.wrap ((p : Int) + o) = p + o := by rw [wrap_u64]; omega
      have q6 : IntKind.u64.wrap ((c : Int) + (p + o)) = c + (p + o) := by rw [wrap_u64]; omega
      have q7 : IntKind.i64.wrap ((i : Int) + j) = i + j := by rw [wrap_i64]; omega
      have q8 : ((i : Int) + j).toNat = i + j := by omega
      have q9 : (j : Int) < (mag b).length := by omega
      have q10 : IntKind.i64.wrap ((j : Int) + 1) = j + 1 := by rw [wrap_i64]; omega
      have q11 : (i : Int) + j < os'.length + (k + 1) := by omega
      have q12 : (0 : Int) ≤ i + j := by omega
      obtain ⟨c', d, hd, hcut, w1, w2⟩ := cut32 ((c : Int) + (p + o)) (c + (p + o)) (by omega)
      have e4 := lset_left os' (List.replicate (k + 1) z32) (i + j) d hij
      simp [mulT, eM, eW, e2, e3, e4, dg, q1, q2, q3, hp', q4, q5, q6, q7, q8, q9, q10, q11, q12, w1, w2]
      refine hM _ (nx (m := m) (s'' := mulT a b (os'.set (i + j) d) i (k + 1) x c' (j + 1)) (snd_of (by simp [LeT, mulT, eM, eW]) (by simp [mulT, dg])) ⟨_, _, _, hos'.set _ hd, by rw [List.length_set]; exact hol', by omega, ?_, ?_, rfl⟩ (by omega))
      · simp only [B] at hd hcut ⊢; omega
      · have h1 := val_set os' (i + j) d hij
        rw [← ho, Nat.pow_add] at h1
        rw [hp] at hcut
        rw [val_take_getD, ← hy, Nat.pow_succ, Nat.mul_add]
        have h2 := mul_step (B ^ i) (B ^ j) x y o c d c' _ _ h1 hcut
        omega
theorem mulMag_ok : callable Try.prog 132 = true := by kernel_rfl
end Go.Proofs.Ytpggfnggffedlaa.Ae

namespace Go.Proofs.Ytpggfnggffedlaa.Ae
open Go Go.RowKit Go.Proofs.Ytpggfnggffedlaa.Dig
variable {N : NR}
theorem ix_rev (z : D) (k : Nat) (r : List D) : ix (List.replicate (k + 1) z ++ r) k = some z := by
  unfold ix; rw [List.getElem?_append_left (by simp)]; simp
theorem lset_rev (z : D) (k : Nat) (r : List D) (v : D) : lset (List.replicate (k + 1) z ++ r) k v = List.replicate k z ++ v :: r := by
  unfold lset
  rw [List.replicate_succ', List.append_assoc, List.set_append_right _ _ (by simp)]
  simp
theorem or_cut (r x : Nat) (hx : x < 4294967296) : (r * 4294967296) ||| x = r * 4294967296 + x := by
  have := Nat.two_pow_add_eq_or_of_lt (i := 32) hx r
  rw [Nat.mul_comm]
  exact this.symm
theorem tdiv_nat (a b : Nat) : Int.tdiv (a : Int) b = ((a / b : Nat) : Int) := rfl
theorem tmod_nat (a b : Nat) : Int.tmod (a : Int) b = ((a % b : Nat) : Int) := rfl
theorem drop_val {a : List Nat} {k : Nat} (h : k < a.length) : val (a.drop k) = a.getD k 0 + B * val (a.drop (k + 1)) := by
  rw [List.drop_eq_getElem_cons h, val, List.getD_eq_getElem?_getD, List.getElem?_eq_getElem h]; rfl
structure N2d where
  a : Nat
  b : Nat
def n2dE (p : N2d) : List D := [eM p.a, dg p.b]
theorem n2dE_inj (p q : N2d) (h : n2dE p = n2dE q) : p = q := by
  obtain ⟨a, b⟩ := p; obtain ⟨c, d⟩ := q
  simp only [n2dE, List.cons.injEq, and_true] at h
  rw [eM_inj h.1, dg_inj h.2]
noncomputable def shortC := ctD n2dE (fun p => Sm p.a ∧ 0 < p.b ∧ p.b < B) (fun p => [eM (p.a / p.b), dg (p.a % p.b)])
theorem shortC_at (a b : Nat) : shortC [eM a, dg b] = (Sm a ∧ 0 < b ∧ b < B, [eM (a / b), dg (a % b)]) := ctD_at n2dE_inj ⟨a, b⟩
def shortS (a b : Nat) (qs : List Nat) (r k : Nat) : St := ⟨[.dat (eM a), .dat (dg b), .any, .any, .any, .any, .row 11, .dat (.lit (.int .u64 r)), .dat (.lit (.int .i64 ((k : Int) - 1))), .any, .any, .any, .any, .any, .any, .any, .any, .any, .any, .any, .any, .any, .any, .any, .any, .any, .any, .any, .any, .any, .any, .any, .any, .any, .any, .any, .any, .any, .any, .any, .any, .any, .any], [none, none, none, none, none, none, none, none, none, none, none, some (.row 1 195 (List.replicate k z32 ++ qs.map dg)), none, none, none, none, none, none, none, none, none, none, none, none, none, none, none, none, none, none, none, none, none, none, none, none, none, none, none, none, none, none, none]⟩
theorem shortMag_spec : SpecD N Try.prog 149 shortC := by
  refine rdD (mf := fun f => f == 143) (tbl_cons (f := 143) (c := .data trimC) trimmed_spec trimmed_ok tbl_nil) (fn := Try.f149) (by kernel_rfl) rfl (by kernel_rfl) ?_
  rintro ⟨a, b⟩ ⟨ha, hb0, hb⟩
  refine ⟨by show 2 ≤ 43; decide, ?_⟩
  simp only [n2dE, Try.f149]
  generalize hq0 : a / b = q0
  generalize hm0 : a % b = m0
  simp only [Sm] at ha hb0 hb
  have r1 : IntKind.i64.wrap (((mag a).length : Int) - 1) = ((mag a).length : Int) - 1 := by rw [wrap_i64]; omega
  simp [eM, eW, dg, r1]
  refine ⟨by omega, ?_⟩
  refine loop_go (fun n s => ∃ (qs : List Nat) (r : Nat), Digs qs ∧ r < b ∧ qs.length + n = (mag a).length ∧ val ((mag a).drop n) = val qs * b + r ∧ s = shortS a b qs r n) (s0 := shortS a b [] 0 (mag a).length) (n := (mag a).length)
    (snd_of (by simp [LeT, shortS, eM, eW, dg]) (by simp [shortS, z32])) ⟨[], 0, Digs.nil, hb0, by simp, by rw [List.drop_eq_nil_of_le (Nat.le_refl _)]; simp [val], rfl⟩ ?_
  rintro n s ⟨qs, r, hqs, hr, hl, hv, rfl⟩ KN hN
  simp only [B] at hb
  cases n with
  | zero =>
    rw [List.drop_zero, val_mag, Nat.mul_comm] at hv
    have e1 : q0 = val qs := by rw [← hq0]; rw [hv, Nat.mul_add_div hb0, Nat.div_eq_of_lt hr, Nat.add_zero]
    have e2 : m0 = r := by rw [← hm0]; rw [hv, Nat.mul_add_mod, Nat.mod_eq_of_lt hr]
    have e3 : qs.length < 2 ^ 62 := by omega
    have e4 : IntKind.u32.wrap (r : Int) = r := by rw [wrap_u32]; omega
    have t1 := trimC_at' qs hqs
    simp [dg] at t1
    simp [shortS, eM, eW, dg, t1, e1, e2, e4]
    simpa using e3
  | succ k =>
    obtain ⟨x, hx⟩ : ∃ x, x = (mag a).getD k 0 := ⟨_, rfl⟩
    have hxB : x < 4294967296 := by rw [hx]; exact getD_lt (mag_digs a) _
    have hk : k < (mag a).length := by omega
    have e1 := ix_dg _ _ hk
    rw [← hx] at e1
    have hrb : r * 4294967296 ≤ 4294967294 * 4294967296 := Nat.mul_le_mul_right _ (by omega)
    obtain ⟨h, hh⟩ : ∃ h, h = r * 4294967296 + x := ⟨_, rfl⟩
    have q1 : IntKind.u64.wrap ((r : Int) * 4294967296) = (r : Int) * 4294967296 := by rw [wrap_u64]; omega
    have q2 : IntKind.u64.wrap (x : Int) = x := by rw [wrap_u64]; omega
    have q3 : bOr .u64 ((r : Int) * 4294967296) x = h := by
      have := bOr64 (r * 4294967296) x (by omega) (by omega)
      rw [or_cut r x hxB, ← hh] at this
      rw [← this]; congr 1
    have q4 : IntKind.u64.wrap (b : Int) = b := by rw [wrap_u64]; omega
    obtain ⟨q, hq⟩ : ∃ q, q = h / b := ⟨_, rfl⟩
    obtain ⟨r', hr'⟩ : ∃ r', r' = h % b := ⟨_, rfl⟩
    have hqB : q < 4294967296 := by
      rw [hq, Nat.div_lt_iff_lt_mul hb0, hh]
      have : (r + 1) * 4294967296 ≤ b * 4294967296 := Nat.mul_le_mul_right _ hr
      omega
    have q5 := tdiv_nat h b
    rw [← hq] at q5
    have q6 := tmod_nat h b
    rw [← hr'] at q6
    have q7 : IntKind.u64.wrap (q : Int) = q := by rw [wrap_u64]; omega
    have q8 : IntKind.u32.wrap (q : Int) = q := by rw [wrap_u32]; omega
    have q9 : IntKind.i64.wrap ((k : Int) - 1) = (k : Int) - 1 := by rw [wrap_i64]; omega
    have q10 : (b : Int) ≠ 0 := by omega
    have q11 : (k : Int) < k + 1 + qs.length := by omega
    have hb1 : ¬ b = 0 := by omega
    simp [shortS, eM, eW, e1, dg, q1, q2, q3, q4, q5, q6, q7, q8, q9, q11, hb1, ix_rev, lset_rev]
    refine ⟨⟨rfl, rfl⟩, hN _ (nx (m := k) (s'' := shortS a b (q :: qs) r' k) (snd_of (by simp [LeT, shortS, eM, eW, dg]) (by simp [shortS, dg])) ⟨_, _, hqs.cons hqB, by rw [hr']; exact Nat.mod_lt _ hb0, by simp; omega, ?_, rfl⟩ (by omega))⟩
    rw [drop_val hk, ← hx, hv, val, Nat.add_mul, hq, hr']
    have h1 := Nat.div_add_mod h b
    rw [Nat.mul_comm] at h1
    have h2 : B * (val qs * b + r) = B * val qs * b + B * r := by rw [Nat.mul_add, Nat.mul_assoc]
    simp only [B] at *
    omega
theorem shortMag_ok : callable Try.prog 149 = true := by kernel_rfl
end Go.Proofs.Ytpggfnggffedlaa.Ae

namespace Go.Proofs.Ytpggfnggffedlaa.Ae
open Go Go.RowKit
def obs (n : Nat) (l : List (Nat × Nat × Ob)) : List (Option Ob) := l.foldr (fun p ob => ob.set p.1 (some p.2.2)) (nO n)
def rho : List (Nat × Nat × Ob) → Nat → Nat
  | [], o => o
  | p :: l, o => if o = p.1 then p.2.1 else rho l o
def LeTr (ρ : Nat → Nat) : List X → List X → Prop
  | [], [] => True
  | x :: a, y :: b => (y = .any ∨ x = y.ren ρ) ∧ LeTr ρ a b
  | _, _ => False
theorem leTr_len (ρ : Nat → Nat) : ∀ (a b : List X), LeTr ρ a b → b.length = a.length
  | [], [], _ => rfl
  | x :: a, y :: b, h => by simp [leTr_len ρ a b h.2]
  | [], _ :: _, h => h.elim
  | _ :: _, [], h => h.elim
theorem leTr_get (ρ : Nat → Nat) : ∀ (a b : List X), LeTr ρ a b → ∀ t, b.getD t .any = .any ∨ a.getD t .any = (b.getD t .any).ren ρ
  | [], [], _, t => .inl rfl
  | x :: a, y :: b, h, 0 => h.1
  | x :: a, y :: b, h, t + 1 => by simpa using leTr_get ρ a b h.2 t
  | [], _ :: _, h, _ => h.elim
  | _ :: _, [], h, _ => h.elim
theorem obs_get (n : Nat) : ∀ (l : List (Nat × Nat × Ob)) (o : Nat) (ob : Ob), (obs n l).getD o none = some ob → ∃ p ∈ l, p.1 = o ∧ p.2.1 = rho l o ∧ p.2.2 = ob
  | [], o, ob, h => by
    simp only [obs, List.foldr_nil, nO, List.getD_eq_getElem?_getD, List.getElem?_replicate] at h
    split at h <;> cases h
  | p :: l, o, ob, h => by
    have e : obs n (p :: l) = (obs n l).set p.1 (some p.2.2) := rfl
    rw [e, List.getD_eq_getElem?_getD, List.getElem?_set] at h
    by_cases hp : p.1 = o
    · rw [if_pos hp] at h
      split at h
      · simp at h
        exact ⟨p, List.mem_cons_self, hp, by simp [rho, hp], h⟩
      · cases h
    · rw [if_neg hp, ← List.getD_eq_getElem?_getD] at h
      obtain ⟨q, hq, h1, h2, h3⟩ := obs_get n l o ob h
      refine ⟨q, List.mem_cons_of_mem _ hq, h1, ?_, h3⟩
      rw [h2]
      have : ¬ o = p.1 := fun e => hp e.symm
      simp [rho, this]
def Ob.isP : Ob → Bool
  | .pbox _ => true
  | .prow _ _ _ _ => true
  | _ => false
def obsOk (s : List (Option Ob)) : List (Nat × Nat × Ob) → Prop
  | [] => True
  | p :: l => gO s p.2.1 = some p.2.2 ∧ (p.2.2.isP = true → p.1 = p.2.1) ∧ (∀ q ∈ l, q.2.1 = p.2.1 → q.1 = p.1) ∧ obsOk s l
theorem obsOk_at {s : List (Option Ob)} : ∀ (l : List (Nat × Nat × Ob)), obsOk s l → ∀ p ∈ l, gO s p.2.1 = some p.2.2 ∧ (p.2.2.isP = true → p.1 = p.2.1)
  | [], _, p, hp => by cases hp
  | q :: l, h, p, hp => by
    rcases List.mem_cons.1 hp with rfl | hp
    · exact ⟨h.1, h.2.1⟩
    · exact obsOk_at l h.2.2.2 p hp
theorem obsOk_inj {s : List (Option Ob)} : ∀ (l : List (Nat × Nat × Ob)), obsOk s l → ∀ p ∈ l, ∀ q ∈ l, p.2.1 = q.2.1 → p.1 = q.1
  | [], _, p, hp, _, _, _ => by cases hp
  | r :: l, h, p, hp, q, hq, e => by
    rcases List.mem_cons.1 hp with rfl | hp' <;> rcases List.mem_cons.1 hq with rfl | hq'
    · rfl
    · exact (h.2.2.1 q hq' e.symm).symm
    · exact h.2.2.1 p hp' e
    · exact obsOk_inj l h.2.2.2 p hp' q hq' e
theorem snd_obs {s s' : St} {n : Nat} (l : List (Nat × Nat × Ob)) (e : s'.ob = obs n l) (ho : obsOk s.ob l) (h : LeTr (rho l) s.tm s'.tm) : Snd s s' :=
  Le.snd (ρ := rho l) ⟨leTr_len _ _ _ h, fun t => leTr_get _ _ _ h t, fun o ob hd => by
      unfold St.obj at hd ⊢
      rw [e] at hd
      obtain ⟨p, hp, h1, h2, h3⟩ := obs_get n l o ob hd
      rw [← h2, ← h3]
      exact (obsOk_at l ho p hp).1,
    fun o d hd => by
      unfold St.obj at hd
      rw [e] at hd
      obtain ⟨p, hp, h1, h2, h3⟩ := obs_get n l o _ hd
      rw [← h2, ← h1]
      exact ((obsOk_at l ho p hp).2 (by rw [h3]; rfl)).symm,
    fun o sz e' cp xs hd => by
      unfold St.obj at hd
      rw [e] at hd
      obtain ⟨p, hp, h1, h2, h3⟩ := obs_get n l o _ hd
      rw [← h2, ← h1]
      exact ((obsOk_at l ho p hp).2 (by rw [h3]; rfl)).symm,
    fun o o' ob ob' h1 h2 he => by
      unfold St.obj at h1 h2
      rw [e] at h1 h2
      obtain ⟨p, hp, p1, p2, _⟩ := obs_get n l o _ h1
      obtain ⟨q, hq, q1, q2, _⟩ := obs_get n l o' _ h2
      rw [← p1, ← q1]
      exact obsOk_inj l ho p hp q hq (by rw [p2, q2, he])⟩
attribute [simp] LeTr rho obsOk Ob.isP X.ren Rv.ren
end Go.Proofs.Ytpggfnggffedlaa.Ae

namespace Go.Proofs.Ytpggfnggffedlaa.Ae
open Go Go.RowKit Go.Proofs.Ytpggfnggffedlaa.Dig
variable {N : NR}
theorem or_low (c x s : Nat) (hc : c < 2 ^ s) : c ||| (x * 2 ^ s) = c + x * 2 ^ s := by
  have := Nat.two_pow_add_eq_or_of_lt (i := s) hc x
  rw [Nat.or_comm, Nat.mul_comm, ← this, Nat.add_comm]
def shE (p : N2) : List D := [eM p.a, .lit (.int .u64 p.b)]
theorem shE_inj (p q : N2) (h : shE p = shE q) : p = q := by
  obtain ⟨a, b⟩ := p; obtain ⟨c, d⟩ := q
  simp only [shE, List.cons.injEq, and_true] at h
  have h2 := h.2
  injection h2 with h2
  injection h2 with _ h2
  rw [eM_inj h.1, Int.ofNat.inj h2]
def shiftS (a b : Nat) (os : List Nat) (c i : Nat) : St := ⟨[.dat (eM a), .dat (.lit (.int .u64 b)), .any, .any, .any, .row 19, .dat (.lit (.int .u64 c)), .any, .any, .any, .any, .any, .any, .any, .any, .any, .any, .any, .any, .any, .dat (eM a), .dat (.lit (.int .i64 (mag a).length)), .dat (.lit (.int .i64 i)), .any, .any, .any, .any, .any, .any, .any, .any, .any, .any, .any, .any, .any, .any, .any, .any, .any, .any, .any, .any, .any, .any, .any, .any], [none, none, none, none, none, none, none, none, none, none, none, none, none, none, none, none, none, none, none, some (.row 1 195 (os.map dg)), none, none, none, none, none, none, none, none, none, none, none, none, none, none, none, none, none, none, none, none, none, none, none, none, none, none, none]⟩
theorem shiftMag_ok : callable Try.prog 151 = true := by kernel_rfl
end Go.Proofs.Ytpggfnggffedlaa.Ae

namespace Go.Proofs.Ytpggfnggffedlaa.Ae
open Go Go.RowKit Go.Proofs.Ytpggfnggffedlaa.Dig
variable {N : NR}
section
variable {α : Type} {e : α → List D × Nat × Nat × List D} {pre : α → Prop} {post : α → Option Wr × List D}
open Classical in
noncomputable def ctW (e : α → List D × Nat × Nat × List D) (pre : α → Prop) (post : α → Option Wr × List D) : List D → Nat → Nat → List D → Prop × Option Wr × List D := fun xs lo n ds =>
  if h : ∃ a, e a = (xs, lo, n, ds) then (pre h.choose, post h.choose) else (False, none, [])
theorem ctW_at (inj : ∀ a b, e a = e b → a = b) (a : α) : ctW e pre post (e a).1 (e a).2.1 (e a).2.2.1 (e a).2.2.2 = (pre a, post a) := by
  unfold ctW
  have h : ∃ b, e b = ((e a).1, (e a).2.1, (e a).2.2.1, (e a).2.2.2) := ⟨a, rfl⟩
  rw [dif_pos h, inj _ _ h.choose_spec]
theorem ctW_pre {xs : List D} {lo n : Nat} {ds : List D} (h : (ctW e pre post xs lo n ds).1) : ∃ a, e a = (xs, lo, n, ds) ∧ pre a ∧ ctW e pre post xs lo n ds = (pre a, post a) := by
  unfold ctW at h ⊢
  by_cases hh : ∃ a, e a = (xs, lo, n, ds)
  · rw [dif_pos hh] at h ⊢
    exact ⟨_, hh.choose_spec, h, rfl⟩
  · rw [dif_neg hh] at h
    exact h.elim
end
theorem rdW {α : Type} {e : α → List D × Nat × Nat × List D} {pre : α → Prop} {post : α → Option Wr × List D} {f : FuncId} {fn : Func} {c : Code} {mf : FuncId → Bool} {tb : FuncId → Option Ct} {sz : Nat} {t : TypeId} (htb : TbOK N Try.prog tb) (hf : Try.prog.funcs[f]? = some fn) (hb : fn.body = some c) (hd : drawAll mf c = true)
    (h : ∀ a cp, pre a → 0 < (e a).1.length → (e a).2.1 + (e a).2.2.1 ≤ (e a).1.length → (0 < (e a).2.2.1 ∨ (e a).2.1 = 0) → (e a).2.2.2.length + 1 ≤ fn.ntmps ∧ (post a).2.length = (e a).1.length ∧
      awp Try.prog mf tb c (startW fn.ntmps (e a).2.1 (e a).2.2.1 (e a).2.2.2 sz t cp (e a).1) (endW Try.prog fn.ntmps fn.results.toList (post a).1 sz t cp (post a).2)) : SpecW N Try.prog f sz t (ctW e pre post) := by
  refine specW_of hf hb (fun xs lo n ds hp h0 hle hnl => ?_)
  obtain ⟨a, he, h1, h2⟩ := ctW_pre hp
  rw [h2]
  have hxs : xs = (e a).1 := by rw [he]
  have hlo : lo = (e a).2.1 := by rw [he]
  have hn : n = (e a).2.2.1 := by rw [he]
  have hds : ds = (e a).2.2.2 := by rw [he]
  subst hxs hlo hn hds
  exact ⟨(h a 0 h1 h0 hle hnl).1, (h a 0 h1 h0 hle hnl).2.1, fun cp => awp_sound htb mo _ _ _ hd (h a cp h1 h0 hle hnl).2.2⟩
theorem rdO {α : Type} {e : α → List D} {pre : α → Prop} {post : α → List D} {f : FuncId} {fn : Func} {c : Code} {mf : FuncId → Bool} {tb : FuncId → Option Ct} {sz : Nat} {t : TypeId} (hsz : 0 < sz) (htb : TbOK N Try.prog tb) (hf : Try.prog.funcs[f]? = some fn) (hb : fn.body = some c) (hd : drawAll mf c = true)
    (h : ∀ a, pre a → (e a).length ≤ fn.ntmps ∧ (post a).all D.isLit = true ∧ awp Try.prog mf tb c (start fn.ntmps ((e a).map .dat) []) (endO fn.results.toList sz t (post a))) : SpecO N Try.prog f sz t (ctD e pre post) := by
  refine specO_of hf hb hsz (fun ds hp => ?_)
  obtain ⟨a, rfl, h1, h2⟩ := ctD_pre hp
  rw [h2]
  exact ⟨(h a h1).1, (h a h1).2.1, awp_sound htb mo _ _ _ hd (h a h1).2.2⟩
@[simp] theorem startW_mk (nt lo n : Nat) (ds : List D) (sz : Nat) (t : TypeId) (cp : Nat) (xs : List D) : startW nt lo n ds sz t cp xs = ⟨.win nt lo n :: (ds.map .dat ++ nX (nt - (ds.length + 1))), nO nt ++ [some (.prow sz t cp xs)]⟩ := rfl
structure Dw where
  xs : List Nat
  lo : Nat
  n : Nat
def dwE (p : Dw) : List D × Nat × Nat × List D := (p.xs.map dg, p.lo, p.n, [])
theorem dwE_inj (p q : Dw) (h : dwE p = dwE q) : p = q := by
  obtain ⟨a, b, c⟩ := p; obtain ⟨d, e, f⟩ := q
  simp only [dwE, Prod.mk.injEq] at h
  rw [map_dg_inj h.1, h.2.1, h.2.2.1]
def part (xs : List Nat) (lo n : Nat) : List Nat := (xs.drop lo).take n
theorem part_len (xs : List Nat) (lo n : Nat) (h : lo + n ≤ xs.length) : (part xs lo n).length = n := by simp [part]; omega
theorem part_snoc (xs : List Nat) (lo n : Nat) (h : lo + (n + 1) ≤ xs.length) : part xs lo (n + 1) = part xs lo n ++ [xs.getD (lo + n) 0] := by
  have e : (xs.drop lo)[n]? = some (xs.getD (lo + n) 0) := by
    rw [List.getElem?_drop, List.getD_eq_getElem?_getD, List.getElem?_eq_getElem (by omega)]; rfl
  unfold part
  rw [Dig.take_succ _ _ _ e]
theorem part_digs {xs : List Nat} (h : Digs xs) (lo n : Nat) : Digs (part xs lo n) := (h.drop lo).take n
noncomputable def trimW := ctW dwE (fun p => Digs p.xs ∧ p.xs.length < 2 ^ 62 ∧ p.lo = 0) (fun p => (some (.win p.lo (mag (val (part p.xs p.lo p.n))).length), p.xs.map dg))
theorem trimW_at (xs : List Nat) (lo n : Nat) : trimW (xs.map dg) lo n [] = ((Digs xs ∧ xs.length < 2 ^ 62 ∧ lo = 0), some (.win lo (mag (val (part xs lo n))).length), xs.map dg) := ctW_at dwE_inj ⟨xs, lo, n⟩
def trimT (xs : List Nat) (cp lo n : Nat) : St := ⟨[.win 21 lo n, .any, .any, .any, .any, .any, .any, .any, .any, .any, .any, .any, .any, .any, .any, .any, .any, .any, .any, .any, .any], [none, none, none, none, none, none, none, none, none, none, none, none, none, none, none, none, none, none, none, none, none, some (.prow 1 195 cp (xs.map dg))]⟩
theorem trimmed_specW : SpecW N Try.prog 143 1 195 trimW := by
  refine rdW (mf := fun _ => false) tbl_nil (fn := Try.f143) (by kernel_rfl) rfl (by kernel_rfl) ?_
  rintro ⟨xs, lo, n⟩ cp ⟨hx, hlen, hlo⟩ h0 hle hnl
  refine ⟨by show 0 + 1 ≤ 21; decide, by simp [dwE], ?_⟩
  simp only [dwE, List.length_map] at h0 hle hnl
  have hx : Digs xs := hx
  have hlen : xs.length < 2 ^ 62 := hlen
  have hlo : lo = 0 := hlo
  simp only [dwE, Try.f143]
  simp
  refine loop_go (fun m s => m ≤ n ∧ val (part xs lo m) = val (part xs lo n) ∧ s = trimT xs cp lo m) (s0 := trimT xs cp lo n) (n := n) (snd_of (by simp [LeT, trimT]) rfl) ⟨Nat.le_refl _, rfl, rfl⟩ ?_
  rintro m s ⟨hm, hv, rfl⟩ KN hN
  cases m with
  | zero =>
    have e1 : mag (val (part xs lo n)) = [] := by rw [← hv]; simp [part, val, mag_zero]
    rw [hlo] at e1
    simp [trimT, hlo, e1]
  | succ m =>
    have e1 : IntKind.i64.wrap (m : Int) = m := by rw [wrap_i64]; omega
    have e2 : ix (xs.map dg) (lo + m) = some (dg (xs.getD (lo + m) 0)) := ix_dg _ _ (by omega)
    obtain ⟨y, hy⟩ : ∃ y, y = xs.getD (lo + m) 0 := ⟨_, rfl⟩
    rw [← hy] at e2
    have hs := part_snoc xs lo m (by omega)
    rw [← hy] at hs
    have hv2 := hv
    rw [hs] at hv2
    have e3 : lo + (m + 1) ≤ xs.length := by omega
    have e4 : (m : Int) ≤ (m : Int) + 1 := by omega
    simp [trimT, e1, e2, e3, e4, dg]
    refine ⟨fun h => hN _ (nx (m := m) (s'' := trimT xs cp lo m) (snd_of (by simp [LeT, trimT]) (by simp [trimT])) ⟨by omega, by rw [← hv2, h, val_snoc_zero], rfl⟩ (by omega)), fun h => ?_⟩
    have h5 : mag (val (part xs lo n)) = part xs lo m ++ [y] := by
      rw [← hv2]
      exact mag_val_snoc (by rw [← hs]; exact part_digs hx _ _) h
    rw [h5]
    simp [part_len xs lo m (by omega)]
theorem trimB_ok : CtOK N Try.prog 143 (.win 1 195 trimW trimC) := ⟨trimmed_specW, trimmed_spec⟩
end Go.Proofs.Ytpggfnggffedlaa.Ae

namespace Go.Proofs.Ytpggfnggffedlaa.Ae
open Go Go.RowKit Go.Proofs.Ytpggfnggffedlaa.Dig
variable {N : NR}
structure Tk where
  xs : List Nat
  lo : Nat
  n : Nat
  vs : List Nat
  t : Nat
def tkE (p : Tk) : List D × Nat × Nat × List D := (p.xs.map dg, p.lo, p.n, [eW p.vs, dg p.t])
theorem tkE_inj (p q : Tk) (h : tkE p = tkE q) : p = q := by
  obtain ⟨a, b, c, d, e⟩ := p; obtain ⟨a', b', c', d', e'⟩ := q
  simp only [tkE, Prod.mk.injEq, List.cons.injEq, and_true] at h
  rw [map_dg_inj h.1, h.2.1, h.2.2.1, eW_inj h.2.2.2.1, dg_inj h.2.2.2.2]
def put (xs : List Nat) (lo n x : Nat) : List Nat := xs.take lo ++ dig n x ++ xs.drop (lo + n)
def tkV (xs : List Nat) (lo n : Nat) (vs : List Nat) (t : Nat) : Nat := if val (part xs lo n) < t * val vs then val (part xs lo n) + B ^ n - t * val vs else val (part xs lo n) - t * val vs
noncomputable def takeW := ctW tkE (fun p => Digs p.xs ∧ Digs p.vs ∧ p.t < B ∧ p.vs.length < p.n ∧ p.lo + p.n ≤ p.xs.length ∧ p.xs.length < 2 ^ 41)
  (fun p => (some (.dat (.lit (.bool (decide (val (part p.xs p.lo p.n) < p.t * val p.vs))))), (put p.xs p.lo p.n (tkV p.xs p.lo p.n p.vs p.t)).map dg))
theorem takeW_at (xs : List Nat) (lo n : Nat) (vs : List Nat) (t : Nat) : takeW (xs.map dg) lo n [eW vs, dg t] = ((Digs xs ∧ Digs vs ∧ t < B ∧ vs.length < n ∧ lo + n ≤ xs.length ∧ xs.length < 2 ^ 41),
  some (.dat (.lit (.bool (decide (val (part xs lo n) < t * val vs))))), (put xs lo n (tkV xs lo n vs t)).map dg) := ctW_at tkE_inj ⟨xs, lo, n, vs, t⟩
theorem ix_at (L R : List Nat) (y : Nat) : ix (List.map dg (L ++ y :: R)) L.length = some (dg y) := by
  have h : L.length = (List.map dg L).length := by simp
  rw [List.map_append]; unfold ix; rw [h, List.getElem?_append_right (Nat.le_refl _), Nat.sub_self]; rfl
theorem lset_at (L R : List Nat) (y d : Nat) : lset (List.map dg (L ++ y :: R)) L.length (.lit (.int .u32 (d : Int))) = List.map dg (L ++ d :: R) := by
  have h : L.length = (List.map dg L).length := by simp
  rw [List.map_append, List.map_append]; unfold lset; rw [h, List.set_append_right _ _ (Nat.le_refl _), Nat.sub_self]; rfl
def takeS (lo n cp : Nat) (vs : List Nat) (t : Nat) (Z : List Nat) (c bo i : Nat) : St := ⟨[.win 48 lo n, .dat (eW vs), .dat (dg t), .any, .any, .any, .any, .dat (.lit (.int .u64 c)), .dat (.lit (.int .u32 bo)), .any, .win 48 lo n, .dat (.lit (.int .i64 n)), .dat (.lit (.int .i64 i)), .any, .any, .any, .any, .any, .any, .any, .any, .any, .any, .any, .any, .any, .any, .any, .any, .any, .any, .any, .any, .any, .any, .any, .any, .any, .any, .any, .any, .any, .any, .any, .any, .any, .any, .any], [none, none, none, none, none, none, none, none, none, none, none, none, none, none, none, none, none, none, none, none, none, none, none, none, none, none, none, none, none, none, none, none, none, none, none, none, none, none, none, none, none, none, none, none, none, none, none, none, some (.prow 1 195 cp (Z.map dg))]⟩
theorem takeTimes_specW : SpecW N Try.prog 152 1 195 takeW := by
  refine rdW (mf := fun _ => false) (tbl_cons (f := 146) (c := .data sub32C) sub32_spec sub32_ok tbl_nil) (fn := Try.f152) (by kernel_rfl) rfl (by kernel_rfl) ?_
  rintro ⟨xs, lo, n, vs, t⟩ cp hpre h0 _ hnl
  obtain ⟨hx, hvs, ht, hnv, hle, hlen⟩ : Digs xs ∧ Digs vs ∧ t < B ∧ vs.length < n ∧ lo + n ≤ xs.length ∧ xs.length < 2 ^ 41 := hpre
  refine ⟨by show 2 + 1 ≤ 48; decide, by simp [tkE, put, dig_len]; omega, ?_⟩
  simp only [tkE, Try.f152]
  simp [eW, dg]
  refine loop_go (fun m s => ∃ (os : List Nat) (c bo : Nat), Digs os ∧ c < B ∧ bo ≤ 1 ∧ os.length + m = n ∧ (vs.length < os.length → c = 0) ∧ val os + t * val (vs.take os.length) = val (part xs lo os.length) + B ^ os.length * (bo + c) ∧
      s = takeS lo n cp vs t (xs.take lo ++ os ++ xs.drop (lo + os.length)) c bo os.length) (s0 := takeS lo n cp vs t xs 0 0 0) (n := n) (snd_of (by simp [LeT, takeS, eW, dg]) (by simp [takeS])) ⟨[], 0, 0, Digs.nil, B_pos, by omega, by simp, by simp, by simp [val, part], by simp⟩ ?_
  rintro m s ⟨os, c, bo, hos, hc, hbo, hl, hcz, hv, rfl⟩ KN hN
  simp only [B] at hc ht
  cases m with
  | zero =>
    have hc0 : c = 0 := hcz (by omega)
    have hln : os.length = n := by omega
    have hvl := val_lt hos
    rw [hln] at hv hvl
    rw [List.take_of_length_le (by omega), hc0, Nat.add_zero] at hv
    have hW : val (part xs lo n) < B ^ n := by have := val_lt (part_digs hx lo n); rwa [part_len xs lo n hle] at this
    have hcase : (bo = 1 ∧ val (part xs lo n) < t * val vs ∧ val os = val (part xs lo n) + B ^ n - t * val vs) ∨ (bo = 0 ∧ ¬ val (part xs lo n) < t * val vs ∧ val os = val (part xs lo n) - t * val vs) := by
      rcases Nat.le_one_iff_eq_zero_or_eq_one.1 hbo with rfl | rfl
      · right; exact ⟨rfl, by omega, by omega⟩
      · left; exact ⟨rfl, by omega, by omega⟩
    have hput : put xs lo n (tkV xs lo n vs t) = xs.take lo ++ os ++ xs.drop (lo + n) := by
      have : tkV xs lo n vs t = val os := by
        unfold tkV
        rcases hcase with ⟨_, h1, h2⟩ | ⟨_, h1, h2⟩
        · rw [if_pos h1, h2]
        · rw [if_neg h1, h2]
      rw [put, this, dig_of hos hln rfl]
    rw [hput, hln]
    generalize xs.take lo ++ os ++ xs.drop (lo + n) = Z
    rcases hcase with ⟨rfl, h1, _⟩ | ⟨rfl, h1, _⟩
    · simp [takeS, eW, dg, h1]
    · simp [takeS, eW, dg, h1]
  | succ m =>
    obtain ⟨x, hxx⟩ : ∃ x, x = xs.getD (lo + os.length) 0 := ⟨_, rfl⟩
    obtain ⟨v, hvv⟩ : ∃ v, v = vs.getD os.length 0 := ⟨_, rfl⟩
    have hxB : x < B := by rw [hxx]; exact getD_lt hx _
    have hvB : v < B := by rw [hvv]; exact getD_lt hvs _
    have hR : xs.drop (lo + os.length) = x :: xs.drop (lo + os.length + 1) := by
      rw [List.drop_eq_getElem_cons (by omega : lo + os.length < xs.length), hxx, List.getD_eq_getElem?_getD, List.getElem?_eq_getElem (by omega)]; rfl
    have hL : (xs.take lo ++ os).length = lo + os.length := by simp; omega
    generalize hLL : xs.take lo ++ os = L at *
    rw [hR]
    have e1 := ix_at L (xs.drop (lo + os.length + 1)) x
    rw [hL] at e1
    simp only [B] at hvB
    have htv : t * v ≤ 4294967295 * 4294967295 := Nat.mul_le_mul (by omega) (by omega)
    obtain ⟨p, hp⟩ : ∃ p, p = c + t * v := ⟨_, rfl⟩
    obtain ⟨c', lp, hlp, hcut, w1, w2⟩ := cut32 (p : Int) p rfl
    have s1 := sub32C_at x lp bo
    obtain ⟨d, hd⟩ : ∃ d : Nat, d = (x + B - lp - bo) % B := ⟨_, rfl⟩
    obtain ⟨bo', hbo'⟩ : ∃ b : Nat, b = if x < lp + bo then 1 else 0 := ⟨_, rfl⟩
    have hsub : d + lp + bo = x + B * bo' := by rw [hd, hbo']; exact borrow_eq x lp bo hxB hlp hbo
    have hdB : d < B := by rw [hd]; exact Nat.mod_lt _ B_pos
    rw [← hd, ← hbo'] at s1
    simp only [dg, hxB, hlp, hbo, and_self] at s1
    have e2 := lset_at L (xs.drop (lo + os.length + 1)) x d
    rw [hL] at e2
    have q1 : IntKind.u64.wrap (t : Int) = t := by rw [wrap_u64]; omega
    have q2 : IntKind.u64.wrap (v : Int) = v := by rw [wrap_u64]; omega
    obtain ⟨tv, htv'⟩ : ∃ tv, tv = t * v := ⟨_, rfl⟩
    have q3 : (t : Int) * v = tv := by rw [htv']; exact (Int.natCast_mul _ _).symm
    have q4 : IntKind.u64.wrap (tv : Int) = tv := by rw [wrap_u64]; omega
    have q5 : IntKind.u64.wrap ((c : Int) + tv) = p := by rw [wrap_u64]; omega
    have q6 : IntKind.i64.wrap ((os.length : Int) + 1) = os.length + 1 := by rw [wrap_i64]; omega
    have q7 : (os.length : Int) < n := by omega
    have hZl : (L ++ x :: xs.drop (lo + os.length + 1)).length = xs.length := by
      rw [List.length_append, List.length_cons, List.length_drop, hL]; omega
    have hnext : ∀ c2, c2 = c' → ∀ s', Snd s' (takeS lo n cp vs t (L ++ d :: xs.drop (lo + os.length + 1)) c2 bo' (os.length + 1)) → (vs.length < os.length + 1 → c' = 0) → p + 0 = c + t * v → KN s' := by
      rintro c2 rfl s' hs hz hpv
      refine hN _ (nx (m := m) (s'' := takeS lo n cp vs t (L ++ d :: xs.drop (lo + os.length + 1)) c2 bo' (os.length + 1)) hs ⟨os ++ [d], c2, bo', hos.append (Digs.nil.cons hdB), ?_, ?_, ?_, ?_, ?_, ?_⟩ (by omega))
      · simp only [B] at hcut ⊢; omega
      · rw [hbo']; split <;> omega
      · simp only [List.length_append, List.length_singleton]; omega
      · simp only [List.length_append, List.length_singleton]; exact hz
      · rw [val_snoc, List.length_append, List.length_singleton, val_take_getD, ← hvv, part_snoc xs lo _ (by omega), val_snoc, part_len xs lo _ (by omega), ← hxx, Nat.pow_succ]
        have h1 := congrArg (B ^ os.length * ·) hsub
        have h2 := congrArg (B ^ os.length * ·) (hcut.trans hp)
        simp only [Nat.mul_add] at h1 h2 hv ⊢
        have h3 : t * (B ^ os.length * v) = B ^ os.length * (t * v) := by simp only [Nat.mul_left_comm]
        have h4 : B ^ os.length * B * bo' = B ^ os.length * (B * bo') := Nat.mul_assoc _ _ _
        have h5 : B ^ os.length * B * c2 = B ^ os.length * (B * c2) := Nat.mul_assoc _ _ _
        rw [h3, h4, h5]
        omega
      · rw [← hLL, List.length_append, List.length_singleton, ← Nat.add_assoc]
        simp only [List.append_assoc, List.singleton_append]
    generalize hZ : L ++ x :: xs.drop (lo + os.length + 1) = Z at *
    generalize hZ' : L ++ d :: xs.drop (lo + os.length + 1) = Z' at *
    have q8 : lo + n ≤ Z.length := by omega
    by_cases hvl : os.length < vs.length
    · have e3 := ix_dg _ _ hvl
      rw [← hvv] at e3
      simp [takeS, eW, dg, hvl, e3, e1, e2, q1, q2, q3, q4, q5, q6, q7, q8, w1, w2, s1]
      exact hnext _ rfl _ (snd_of (by simp [LeT, takeS, eW, dg]) (by simp [takeS])) (by omega) (by omega)
    · have hv0 : v = 0 := by rw [hvv]; exact getD_out _ _ hvl
      have hpc : p = c := by rw [hp, hv0]; omega
      have w3 : IntKind.u32.wrap (c : Int) = lp := by rw [← hpc]; exact w1
      have w4 : (c : Int) / 4294967296 = c' := by rw [← hpc]; exact w2
      simp [takeS, eW, dg, hvl, e1, e2, q6, q7, q8, w3, w4, s1]
      exact hnext _ rfl _ (snd_of (by simp [LeT, takeS, eW, dg]) (by simp [takeS])) (fun _ => by simp only [B] at hcut; omega) (by omega)
theorem takeTimes_ok : callable Try.prog 152 = true := by kernel_rfl
end Go.Proofs.Ytpggfnggffedlaa.Ae

namespace Go.Proofs.Ytpggfnggffedlaa.Ae
open Go Go.RowKit Go.Proofs.Ytpggfnggffedlaa.Dig
variable {N : NR}
structure Gb where
  xs : List Nat
  lo : Nat
  n : Nat
  vs : List Nat
def gbE (p : Gb) : List D × Nat × Nat × List D := (p.xs.map dg, p.lo, p.n, [eW p.vs])
theorem gbE_inj (p q : Gb) (h : gbE p = gbE q) : p = q := by
  obtain ⟨a, b, c, d⟩ := p; obtain ⟨a', b', c', d'⟩ := q
  simp only [gbE, Prod.mk.injEq, List.cons.injEq, and_true] at h
  rw [map_dg_inj h.1, h.2.1, h.2.2.1, eW_inj h.2.2.2]
noncomputable def giveW := ctW gbE (fun p => Digs p.xs ∧ Digs p.vs ∧ p.vs.length ≤ p.n ∧ p.lo + p.n ≤ p.xs.length ∧ p.xs.length < 2 ^ 41)
  (fun p => (none, (put p.xs p.lo p.n ((val (part p.xs p.lo p.n) + val p.vs) % B ^ p.n)).map dg))
theorem giveW_at (xs : List Nat) (lo n : Nat) (vs : List Nat) : giveW (xs.map dg) lo n [eW vs] = ((Digs xs ∧ Digs vs ∧ vs.length ≤ n ∧ lo + n ≤ xs.length ∧ xs.length < 2 ^ 41),
  none, (put xs lo n ((val (part xs lo n) + val vs) % B ^ n)).map dg) := ctW_at gbE_inj ⟨xs, lo, n, vs⟩
def giveS (lo n cp : Nat) (vs : List Nat) (Z : List Nat) (c i : Nat) : St := ⟨[.win 34 lo n, .dat (eW vs), .any, .any, .dat (.lit (.int .u32 c)), .any, .any, .win 34 lo n, .dat (.lit (.int .i64 n)), .dat (.lit (.int .i64 i)), .any, .any, .any, .any, .any, .any, .any, .any, .any, .any, .any, .any, .any, .any, .any, .any, .any, .any, .any, .any, .any, .any, .any, .any], [none, none, none, none, none, none, none, none, none, none, none, none, none, none, none, none, none, none, none, none, none, none, none, none, none, none, none, none, none, none, none, none, none, none, some (.prow 1 195 cp (Z.map dg))]⟩
theorem giveBack_specW : SpecW N Try.prog 153 1 195 giveW := by
  refine rdW (mf := fun _ => false) (tbl_cons (f := 155) (c := .data add32C) add32_spec add32_ok tbl_nil) (fn := Try.f153) (by kernel_rfl) rfl (by kernel_rfl) ?_
  rintro ⟨xs, lo, n, vs⟩ cp hpre h0 _ hnl
  obtain ⟨hx, hvs, hnv, hle, hlen⟩ : Digs xs ∧ Digs vs ∧ vs.length ≤ n ∧ lo + n ≤ xs.length ∧ xs.length < 2 ^ 41 := hpre
  refine ⟨by show 1 + 1 ≤ 34; decide, by simp [gbE, put, dig_len]; omega, ?_⟩
  simp only [gbE, Try.f153]
  simp [eW, dg]
  refine loop_go (fun m s => ∃ (os : List Nat) (c : Nat), Digs os ∧ c ≤ 1 ∧ os.length + m = n ∧ val os + B ^ os.length * c = val (part xs lo os.length) + val (vs.take os.length) ∧
      s = giveS lo n cp vs (xs.take lo ++ os ++ xs.drop (lo + os.length)) c os.length) (s0 := giveS lo n cp vs xs 0 0) (n := n) (snd_of (by simp [LeT, giveS, eW, dg]) (by simp [giveS])) ⟨[], 0, Digs.nil, by omega, by simp, by simp [val, part], by simp⟩ ?_
  rintro m s ⟨os, c, hos, hc, hl, hv, rfl⟩ KN hN
  cases m with
  | zero =>
    have hln : os.length = n := by omega
    have hvl := val_lt hos
    rw [hln] at hv hvl
    rw [List.take_of_length_le (by omega)] at hv
    have hput : put xs lo n ((val (part xs lo n) + val vs) % B ^ n) = xs.take lo ++ os ++ xs.drop (lo + n) := by
      have : (val (part xs lo n) + val vs) % B ^ n = val os := by rw [← hv, Nat.add_mul_mod_self_left, Nat.mod_eq_of_lt hvl]
      rw [put, this, dig_of hos hln rfl]
    rw [hput, hln]
    generalize xs.take lo ++ os ++ xs.drop (lo + n) = Z
    simp [giveS, eW, dg]
  | succ m =>
    obtain ⟨x, hxx⟩ : ∃ x, x = xs.getD (lo + os.length) 0 := ⟨_, rfl⟩
    obtain ⟨v, hvv⟩ : ∃ v, v = vs.getD os.length 0 := ⟨_, rfl⟩
    have hxB : x < B := by rw [hxx]; exact getD_lt hx _
    have hvB : v < B := by rw [hvv]; exact getD_lt hvs _
    have hR : xs.drop (lo + os.length) = x :: xs.drop (lo + os.length + 1) := by
      rw [List.drop_eq_getElem_cons (by omega : lo + os.length < xs.length), hxx, List.getD_eq_getElem?_getD, List.getElem?_eq_getElem (by omega)]; rfl
    have hL : (xs.take lo ++ os).length = lo + os.length := by simp; omega
    generalize hLL : xs.take lo ++ os = L at *
    rw [hR]
    have e1 := ix_at L (xs.drop (lo + os.length + 1)) x
    rw [hL] at e1
    have s1 := add32C_at x v c
    obtain ⟨d, hd⟩ : ∃ d : Nat, d = (x + v + c) % B := ⟨_, rfl⟩
    obtain ⟨c', hc'⟩ : ∃ c' : Nat, c' = (x + v + c) / B := ⟨_, rfl⟩
    have hsum : d + B * c' = x + v + c := by rw [hd, hc']; exact Nat.mod_add_div _ _
    have hdB : d < B := by rw [hd]; exact Nat.mod_lt _ B_pos
    rw [← hd, ← hc'] at s1
    simp only [dg, hxB, hvB, hc, and_self] at s1
    have e2 := lset_at L (xs.drop (lo + os.length + 1)) x d
    rw [hL] at e2
    have q6 : IntKind.i64.wrap ((os.length : Int) + 1) = os.length + 1 := by rw [wrap_i64]; omega
    have q7 : (os.length : Int) < n := by omega
    have hZl : (L ++ x :: xs.drop (lo + os.length + 1)).length = xs.length := by
      rw [List.length_append, List.length_cons, List.length_drop, hL]; omega
    have hnext : ∀ s', Snd s' (giveS lo n cp vs (L ++ d :: xs.drop (lo + os.length + 1)) c' (os.length + 1)) → KN s' := by
      intro s' hs
      refine hN _ (nx (m := m) (s'' := giveS lo n cp vs (L ++ d :: xs.drop (lo + os.length + 1)) c' (os.length + 1)) hs ⟨os ++ [d], c', hos.append (Digs.nil.cons hdB), ?_, ?_, ?_, ?_⟩ (by omega))
      · simp only [B] at hsum hxB hvB; omega
      · simp only [List.length_append, List.length_singleton]; omega
      · rw [val_snoc, List.length_append, List.length_singleton, val_take_getD, ← hvv, part_snoc xs lo _ (by omega), val_snoc, part_len xs lo _ (by omega), ← hxx, Nat.pow_succ]
        have h1 := congrArg (B ^ os.length * ·) hsum
        simp only [Nat.mul_add] at h1 hv ⊢
        have h5 : B ^ os.length * B * c' = B ^ os.length * (B * c') := Nat.mul_assoc _ _ _
        rw [h5]
        omega
      · rw [← hLL, List.length_append, List.length_singleton, ← Nat.add_assoc]
        simp only [List.append_assoc, List.singleton_append]
    generalize hZ : L ++ x :: xs.drop (lo + os.length + 1) = Z at *
    generalize hZ' : L ++ d :: xs.drop (lo + os.length + 1) = Z' at *
    have q8 : lo + n ≤ Z.length := by omega
    by_cases hvl : os.length < vs.length
    · have e3 := ix_dg _ _ hvl
      rw [← hvv] at e3
      simp [giveS, eW, dg, hvl, e3, e1, e2, q6, q7, q8, s1]
      exact hnext _ (snd_of (by simp [LeT, giveS, eW, dg]) (by simp [giveS]))
    · have hv0 : v = 0 := by rw [hvv]; exact getD_out _ _ hvl
      rw [hv0] at s1
      simp at s1
      simp [giveS, eW, dg, hvl, e1, e2, q6, q7, q8, s1]
      exact hnext _ (snd_of (by simp [LeT, giveS, eW, dg]) (by simp [giveS]))
theorem giveBack_ok : callable Try.prog 153 = true := by kernel_rfl
end Go.Proofs.Ytpggfnggffedlaa.Ae

namespace Go.Proofs.Ytpggfnggffedlaa.Ae
open Go Go.RowKit Go.Proofs.Ytpggfnggffedlaa.Dig
variable {N : NR}
noncomputable def shiftO := ctD shE (fun p => Sm p.a ∧ p.b < 2 ^ 40) (fun p => (mag (p.a * 2 ^ p.b)).map dg)
theorem shiftO_at (a b : Nat) : shiftO [eM a, .lit (.int .u64 b)] = ((Sm a ∧ b < 2 ^ 40), (mag (a * 2 ^ b)).map dg) := ctD_at shE_inj ⟨a, b⟩
theorem shiftMag_specO : SpecO N Try.prog 151 1 195 shiftO := by
  refine rdO (by decide) (mf := fun f => f == 143) (tbl_cons (f := 143) (c := .win 1 195 trimW trimC) trimB_ok trimmed_ok tbl_nil) (fn := Try.f151) (by kernel_rfl) rfl (by kernel_rfl) ?_
  rintro ⟨a, b⟩ ⟨ha, hb⟩
  refine ⟨by show 2 ≤ 47; decide, List.all_eq_true.2 (fun d hd => by obtain ⟨k, _, rfl⟩ := List.mem_map.1 hd; rfl), ?_⟩
  simp only [shE, Try.f151]
  simp only [Sm] at ha hb
  generalize hres : a * 2 ^ b = res
  obtain ⟨w, hw⟩ : ∃ w, w = b / 32 := ⟨_, rfl⟩
  obtain ⟨s, hs⟩ : ∃ s, s = b % 32 := ⟨_, rfl⟩
  have hs32 : s < 32 := by rw [hs]; exact Nat.mod_lt _ (by decide)
  have hbw : b = 32 * w + s := by rw [hw, hs]; exact (Nat.div_add_mod b 32).symm
  have r1 : Int.tdiv (b : Int) 32 = (w : Int) := by rw [hw]; exact tdiv_nat b 32
  have r2 : Int.tmod (b : Int) 32 = (s : Int) := by rw [hs]; exact tmod_nat b 32
  have r3 : IntKind.u64.wrap (w : Int) = w := by rw [wrap_u64]; omega
  have r4 : IntKind.i64.wrap (w : Int) = w := by rw [wrap_i64]; omega
  have r5 : IntKind.i64.wrap (((mag a).length : Int) + w) = (mag a).length + w := by rw [wrap_i64]; omega
  have r6 : IntKind.i64.wrap (((mag a).length : Int) + w + 1) = (mag a).length + w + 1 := by rw [wrap_i64]; omega
  have h2s : 2 ^ s ≤ 2 ^ 31 := Nat.pow_le_pow_right (by decide) (by omega)
  have hBw : B ^ w * 2 ^ s = 2 ^ b := by
    have : B = 2 ^ 32 := by decide
    rw [this, ← Nat.pow_mul, ← Nat.pow_add, hbw]
  simp [eM, eW, r1, r2, r3, r4, r5, r6]
  refine ⟨by omega, ?_⟩
  refine loop_go (fun n st => ∃ (os : List Nat) (i c : Nat), Digs os ∧ os.length = w + i ∧ i + n = (mag a).length ∧ c < 2 ^ s ∧ val os + B ^ os.length * c = 2 ^ b * val ((mag a).take i) ∧ st = shiftS a b os c i) (s0 := shiftS a b (List.replicate w 0) 0 0) (n := (mag a).length)
    (snd_of (by simp [LeT, shiftS, eM, eW]) (by simp [shiftS, dg])) ⟨_, 0, 0, Digs.zeros _, by simp, by simp, Nat.pow_pos (by decide), by simp [val_zeros, val], rfl⟩ ?_
  rintro n st ⟨os, i, c, hos, hol, hl, hc, hv, rfl⟩ KN hN
  cases n with
  | zero =>
    have e3 : (i : Int) = (mag a).length := by omega
    have e4 : IntKind.u32.wrap (c : Int) = c := by rw [wrap_u32]; omega
    have hcB : c < B := by simp only [B]; omega
    have t1 := trimW_at (os ++ [c]) 0 (os.length + 1)
    have hdg := hos.append (Digs.nil.cons hcB)
    have hpt : part (os ++ [c]) 0 (os.length + 1) = os ++ [c] := by unfold part; rw [List.drop_zero, List.take_of_length_le (by simp)]
    rw [hpt] at t1
    have e1 : val (os ++ [c]) = res := by rw [val_snoc, hv, val_take_all _ _ (by omega), val_mag, ← hres, Nat.mul_comm]
    rw [e1] at t1
    have t2 : (List.map dg (os ++ [c])) = List.map dg os ++ [D.lit (.int .u32 c)] := by simp [dg]
    rw [t2] at t1
    have hml : (mag res).length ≤ os.length + 1 := by
      have := val_lt hdg
      rw [e1] at this
      have h2 := mag_lt.2 this
      simpa using h2
    have htk : (List.map dg os ++ [D.lit (.int .u32 c)]).take (mag res).length = (mag res).map dg := by
      rw [← t2, ← List.map_take]
      congr 1
      have h1 : dig (os ++ [c]).length res = os ++ [c] := dig_of hdg rfl e1
      rw [← h1]
      exact dig_take _ _ (by simpa using hml)
    simp [shiftS, eM, eW, e3, e4, t1]
    have := maxLen_ge
    refine ⟨by omega, ⟨hdg, by omega⟩, ⟨4, 45, _, rfl, rfl, .inr ⟨(mag res).length, rfl, by simpa using hml, htk⟩⟩⟩
  | succ k =>
    obtain ⟨x, hx⟩ : ∃ x, x = (mag a).getD i 0 := ⟨_, rfl⟩
    have hxB : x < 4294967296 := by rw [hx]; exact getD_lt (mag_digs a) _
    have hi : i < (mag a).length := by omega
    have e1 := ix_dg _ _ hi
    rw [← hx] at e1
    have q0 : IntKind.u64.wrap (x : Int) = x := by rw [wrap_u64]; omega
    have q1 : min s 64 = s := by omega
    obtain ⟨y, hy⟩ : ∃ y, y = x * 2 ^ s := ⟨_, rfl⟩
    have hyB : y ≤ 4294967295 * 2 ^ 31 := by rw [hy]; exact Nat.mul_le_mul (by omega) h2s
    have q2 : IntKind.u64.wrap ((x : Int) * 2 ^ s) = y := by
      have : (x : Int) * 2 ^ s = y := by rw [hy]; simp
      rw [this, wrap_u64]; omega
    obtain ⟨h, hh⟩ : ∃ h, h = c + y := ⟨_, rfl⟩
    have q3 : bOr .u64 (c : Int) y = h := by
      rw [bOr64 c y (by omega) (by omega), hy, or_low c x s hc, hh, hy]
    obtain ⟨c', d, hd, hcut, w1, w2⟩ := cut32 (h : Int) h rfl
    have q4 : IntKind.i64.wrap ((i : Int) + 1) = i + 1 := by rw [wrap_i64]; omega
    have q5 : (i : Int) < (mag a).length := by omega
    simp [shiftS, eM, eW, e1, dg, r2, q0, q1, q2, q3, q4, q5, w1, w2]
    have hmx := maxLen_ge
    refine ⟨by omega, hN _ (nx (m := k) (s'' := shiftS a b (os ++ [d]) c' (i + 1)) (snd_obs (n := 47) [(19, 37, .row 1 195 ((os ++ [d]).map dg))] rfl (by simp [dg]) (by simp [shiftS, eM, eW])) ⟨_, _, _, hos.append (Digs.nil.cons hd), ?_, ?_, ?_, ?_, rfl⟩ (by omega))⟩
    · simp only [List.length_append, List.length_singleton]; omega
    · omega
    · have h1 : h < 2 ^ s * 4294967296 := by
        have h3 : (x + 1) * 2 ^ s ≤ 4294967296 * 2 ^ s := Nat.mul_le_mul_right _ hxB
        rw [Nat.add_mul, ← hy] at h3
        omega
      have h2 : B * c' < B * 2 ^ s := by simp only [B] at *; omega
      exact Nat.lt_of_mul_lt_mul_left h2
    · rw [val_snoc, List.length_append, List.length_singleton, Nat.pow_succ, Nat.mul_assoc, Nat.add_assoc, ← Nat.mul_add, hcut, hh, hy, val_take_getD, ← hx]
      have h3 : B ^ os.length * (x * 2 ^ s) = 2 ^ b * (B ^ i * x) := by
        rw [← hBw, hol, Nat.pow_add]; simp only [Nat.mul_assoc, Nat.mul_comm, Nat.mul_left_comm]
      rw [Nat.mul_add, Nat.mul_add, h3]
      omega
end Go.Proofs.Ytpggfnggffedlaa.Ae

namespace Go.Proofs.Ytpggfnggffedlaa.Ae
open Go Go.RowKit Go.Proofs.Ytpggfnggffedlaa.Dig
variable {N : NR}
def bl (x : Nat) : Nat := if x = 0 then 0 else Nat.log2 x + 1
theorem bl_shift (x k : Nat) (h : 2 ^ k ≤ x) : bl x = bl (x / 2 ^ k) + k := by
  have h0 : x ≠ 0 := by have := Nat.pow_pos (n := k) (show 0 < 2 by decide); omega
  have h1 : x / 2 ^ k ≠ 0 := by
    have := Nat.div_pos h (Nat.pow_pos (n := k) (by decide))
    omega
  unfold bl
  rw [if_neg h0, if_neg h1]
  have : Nat.log2 x = Nat.log2 (x / 2 ^ k) + k := by
    have e1 := Nat.log2_self_le h1
    have e2 := Nat.lt_log2_self (n := x / 2 ^ k)
    rw [Nat.log2_eq_iff h0]
    constructor
    · rw [Nat.pow_add]
      calc 2 ^ (x / 2 ^ k).log2 * 2 ^ k ≤ (x / 2 ^ k) * 2 ^ k := Nat.mul_le_mul_right _ e1
        _ ≤ x := Nat.div_mul_le_self _ _
    · have e3 : x < (x / 2 ^ k + 1) * 2 ^ k := by
        have := Nat.lt_div_mul_add (a := x) (b := 2 ^ k) (Nat.pow_pos (by decide))
        rw [Nat.add_mul]; omega
      calc x < (x / 2 ^ k + 1) * 2 ^ k := e3
        _ ≤ 2 ^ ((x / 2 ^ k).log2 + 1) * 2 ^ k := Nat.mul_le_mul_right _ e2
        _ = 2 ^ ((x / 2 ^ k).log2 + k + 1) := by rw [← Nat.pow_add]; congr 1; omega
  omega
theorem bl_le {x k : Nat} (h : x < 2 ^ k) : bl x ≤ k := by
  unfold bl
  split
  · omega
  · rename_i h0
    have := (Nat.log2_lt h0).2 h
    omega
theorem bl_lt {x : Nat} : x < 2 ^ bl x := by
  unfold bl
  split
  · rename_i h; subst h; decide
  · exact Nat.lt_log2_self
theorem bl_ge {x : Nat} (h : x ≠ 0) : 2 ^ (bl x - 1) ≤ x := by
  unfold bl
  rw [if_neg h]
  exact Nat.log2_self_le h
theorem tab_at {l : List UInt8} (h : l = (List.range 256).map (fun y => UInt8.ofNat (bl y))) (y : Nat) (hy : y < 256) : byteAt ⟨l.toArray⟩ y = bl y := by
  have h1 : (ByteArray.mk l.toArray)[y]? = some (UInt8.ofNat (bl y)) := by
    have hl : l.length = 256 := by rw [h, List.length_map, List.length_range]
    have hsz : (ByteArray.mk l.toArray).size = 256 := by show l.toArray.size = 256; simpa using hl
    rw [ByteArray.getElem?_lt' _ _ (by omega)]
    have : (ByteArray.mk l.toArray)[y] = l[y] := rfl
    rw [this]
    have h2 : l[y]? = some (UInt8.ofNat (bl y)) := by rw [h, List.getElem?_map, List.getElem?_range hy]; rfl
    rw [List.getElem?_eq_getElem (by omega)] at h2
    exact h2
  unfold byteAt
  rw [Int.toNat_natCast, h1, Option.getD_some]
  have : bl y ≤ 8 := bl_le (by omega)
  rw [UInt8.toNat_ofNat', Nat.mod_eq_of_lt (by omega)]
def d1E (x : Nat) : List D := [dg x]
theorem d1E_inj (p q : Nat) (h : d1E p = d1E q) : p = q := by simp only [d1E, List.cons.injEq, and_true] at h; exact dg_inj h
noncomputable def len32C := ctD d1E (fun x => x < B) (fun x => [.lit (.int .i64 (bl x))])
theorem len32C_at (x : Nat) : len32C [dg x] = (x < B, [.lit (.int .i64 (bl x))]) := ctD_at d1E_inj x
noncomputable def lz32C := ctD d1E (fun x => x < B) (fun x => [.lit (.int .i64 ((32 - bl x : Nat) : Int))])
theorem lz32C_at (x : Nat) : lz32C [dg x] = (x < B, [.lit (.int .i64 ((32 - bl x : Nat) : Int))]) := ctD_at d1E_inj x
theorem len32_spec : SpecD N Try.prog 154 len32C := by
  refine rdD (mf := fun _ => false) tbl_nil (fn := Try.f154) (by kernel_rfl) rfl (by kernel_rfl) ?_
  intro x hx
  refine ⟨by show 1 ≤ 19; decide, ?_⟩
  simp only [d1E, Try.f154]
  simp only [B] at hx
  have q1 : (x : Int) / 65536 = ((x / 65536 : Nat) : Int) := by omega
  have q2 : ((x / 65536 : Nat) : Int) / 256 = ((x / 65536 / 256 : Nat) : Int) := by omega
  have q3 : (x : Int) / 256 = ((x / 256 : Nat) : Int) := by omega
  generalize hs : ByteArray.mk (List.toArray _) = tb
  have hsz : tb.size = 256 := by rw [← hs]; kernel_rfl
  have key : ∀ y : Nat, y < 256 → byteAt tb y = bl y := by
    rw [← hs]
    exact fun y hy => tab_at (by kernel_rfl) y hy
  clear hs
  have fin : ∀ (y c : Nat), y < 256 → c ≤ 24 → bl x = bl y + c → (0 ≤ IntKind.u8.wrap (y : Int) ∧ IntKind.u8.wrap (y : Int) < tb.size) ∧ IntKind.i64.wrap ((c : Int) + IntKind.i64.wrap (byteAt tb (IntKind.u8.wrap (y : Int)))) = bl x := by
    intro y c hy hc he
    have h1 : IntKind.u8.wrap (y : Int) = y := by simp [IntKind.wrap, IntKind.signed, IntKind.bits]; omega
    have h2 : bl y ≤ 8 := bl_le (by omega)
    rw [h1, key y hy]
    refine ⟨by omega, ?_⟩
    rw [i64_id (bl y) (by omega) (by omega), i64_id _ (by omega) (by omega)]; omega
  have w24 : IntKind.i64.wrap 24 = 24 := i64_id _ (by decide) (by decide)
  have w8 : IntKind.i64.wrap 8 = 8 := i64_id _ (by decide) (by decide)
  simp [dg, w24, w8]
  refine ⟨fun h1 => ⟨fun h2 => ?_, fun h2 => ?_⟩, fun h1 => ⟨fun h2 => ?_, fun h2 => ?_⟩⟩
  · have e1 := bl_shift x 16 (by omega)
    have e2 := bl_shift (x / 2 ^ 16) 8 (by omega)
    have : (0 ≤ IntKind.u8.wrap ((x / 65536 / 256 : Nat) : Int) ∧ _) ∧ IntKind.i64.wrap (24 + _) = _ := fin (x / 65536 / 256) 24 (by omega) (by omega) (by rw [e1, e2])
    rw [q1, q2]
    refine ⟨this.1, ?_⟩
    rw [this.2]; exact Sub.refl _
  · have e1 := bl_shift x 16 (by omega)
    have : (0 ≤ IntKind.u8.wrap ((x / 65536 : Nat) : Int) ∧ _) ∧ IntKind.i64.wrap (16 + _) = _ := fin (x / 65536) 16 (by omega) (by omega) (by rw [e1])
    rw [q1]
    refine ⟨this.1, ?_⟩
    rw [this.2]; exact Sub.refl _
  · have e1 := bl_shift x 8 (by omega)
    have : (0 ≤ IntKind.u8.wrap ((x / 256 : Nat) : Int) ∧ _) ∧ IntKind.i64.wrap (8 + _) = _ := fin (x / 256) 8 (by omega) (by omega) (by rw [e1])
    rw [q3]
    refine ⟨this.1, ?_⟩
    rw [this.2]; exact Sub.refl _
  · have := fin x 0 (by omega) (by omega) rfl
    refine ⟨this.1, ?_⟩
    have h3 := this.2
    rw [Int.natCast_zero, Int.zero_add] at h3
    rw [h3]; exact Sub.refl _
theorem len32_ok : callable Try.prog 154 = true := by kernel_rfl
theorem lz32_spec : SpecD N Try.prog 150 lz32C := by
  refine rdD (mf := fun _ => false) (tbl_cons (f := 154) (c := .data len32C) len32_spec len32_ok tbl_nil) (fn := Try.f150) (by kernel_rfl) rfl (by kernel_rfl) ?_
  intro x hx
  refine ⟨by show 1 ≤ 6; decide, ?_⟩
  simp only [d1E, Try.f150]
  have h1 := len32C_at x
  have h2 : bl x ≤ 32 := bl_le (by simpa [B] using hx)
  have h3 : IntKind.i64.wrap (32 - (bl x : Int)) = ((32 - bl x : Nat) : Int) := by rw [wrap_i64]; omega
  simp only [dg] at h1
  generalize hr : ((32 - bl x : Nat) : Int) = r at *
  simp [dg, h1, h3, hx]
theorem lz32_ok : callable Try.prog 150 = true := by kernel_rfl
end Go.Proofs.Ytpggfnggffedlaa.Ae
