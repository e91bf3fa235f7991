import Derived.KernelRfl
import Derived.Test.YtgjpamkllimhdaaGreatProg
import Derived.Test.YtgjpamkllimhdaaGreatJE1
set_option linter.unusedSimpArgs false
set_option linter.unusedVariables false
namespace Go.Proofs.YtgjpamkllimhdaaGreat
open Go Go.RowKit
def ti2:TyI:=⟨.int .i64,1,8,[(.int .i64 0)],false⟩
theorem ty2:TyOk Tryz.prog 2 ti2:=TyOk.of Tryz.underlying2 (show TK.ok _ (.int .i64) _ from rfl) (.int .i64 0) (by kernel_rfl) rfl rfl rfl rfl (by decide) (fun h=>by cases h)
def ti3:TyI:=⟨.int .i64,1,8,[(.int .i64 0)],false⟩
theorem ty3:TyOk Tryz.prog 3 ti3:=TyOk.of Tryz.underlying3 (show TK.ok _ (.int .i64) _ from rfl) (.int .i64 0) (by kernel_rfl) rfl rfl rfl rfl (by decide) (fun h=>by cases h)
def ti4:TyI:=⟨.bool,1,1,[(.bool false)],false⟩
theorem ty4:TyOk Tryz.prog 4 ti4:=TyOk.of Tryz.underlying4 (show TK.ok _ (.bool) _ from rfl) (.bool false) (by kernel_rfl) rfl rfl rfl rfl (by decide) (fun h=>by cases h)
def ti5:TyI:=⟨.int .u8,1,1,[(.int .u8 0)],false⟩
theorem ty5:TyOk Tryz.prog 5 ti5:=TyOk.of Tryz.underlying5 (show TK.ok _ (.int .u8) _ from rfl) (.int .u8 0) (by kernel_rfl) rfl rfl rfl rfl (by decide) (fun h=>by cases h)
def ti6:TyI:=⟨.int .u8,1,1,[(.int .u8 0)],false⟩
theorem ty6:TyOk Tryz.prog 6 ti6:=TyOk.of Tryz.underlying6 (show TK.ok _ (.int .u8) _ from rfl) (.int .u8 0) (by kernel_rfl) rfl rfl rfl rfl (by decide) (fun h=>by cases h)
def ti7:TyI:=⟨.struct [(0,2,1),(1,3,1),(2,4,1),(3,6,1)],4,24,[(.int .i64 0),(.int .i64 0),(.bool false),(.int .u8 0)],false⟩
theorem ty7:TyOk Tryz.prog 7 ti7:=TyOk.of Tryz.underlying7 (show TK.ok _ (.struct [(0,2,1),(1,3,1),(2,4,1),(3,6,1)]) _ from ⟨_,rfl,rfl,fun x hx=>by simp only [U8,List.not_mem_nil,or_false] at hx;rcases hx with rfl | rfl | rfl | rfl<;>exact ⟨by kernel_rfl,by decide⟩⟩) (.agg #[(.int .i64 0),(.int .i64 0),(.bool false),(.int .u8 0)]) (by kernel_rfl) rfl rfl rfl rfl (by decide) (fun h=>by cases h)
def ti8:TyI:=⟨.struct [(0,2,1),(1,3,1),(2,4,1),(3,6,1)],4,24,[(.int .i64 0),(.int .i64 0),(.bool false),(.int .u8 0)],false⟩
theorem ty8:TyOk Tryz.prog 8 ti8:=TyOk.of Tryz.underlying8 (show TK.ok _ (.struct [(0,2,1),(1,3,1),(2,4,1),(3,6,1)]) _ from ⟨_,rfl,rfl,fun x hx=>by simp only [U8,List.not_mem_nil,or_false] at hx;rcases hx with rfl | rfl | rfl | rfl<;>exact ⟨by kernel_rfl,by decide⟩⟩) (.agg #[(.int .i64 0),(.int .i64 0),(.bool false),(.int .u8 0)]) (by kernel_rfl) rfl rfl rfl rfl (by decide) (fun h=>by cases h)
def ti9:TyI:=⟨.string,1,16,[(.string .empty)],false⟩
theorem ty9:TyOk Tryz.prog 9 ti9:=TyOk.of Tryz.underlying9 (show TK.ok _ (.string) _ from rfl) (.string .empty) (by kernel_rfl) rfl rfl rfl rfl (by decide) (fun h=>by cases h)
def ti10:TyI:=⟨.string,1,16,[(.string .empty)],false⟩
theorem ty10:TyOk Tryz.prog 10 ti10:=TyOk.of Tryz.underlying10 (show TK.ok _ (.string) _ from rfl) (.string .empty) (by kernel_rfl) rfl rfl rfl rfl (by decide) (fun h=>by cases h)
def ti11:TyI:=⟨.string,1,16,[(.string .empty)],false⟩
theorem ty11:TyOk Tryz.prog 11 ti11:=TyOk.of Tryz.underlying11 (show TK.ok _ (.string) _ from rfl) (.string .empty) (by kernel_rfl) rfl rfl rfl rfl (by decide) (fun h=>by cases h)
def ti12:TyI:=⟨.int .u64,1,8,[(.int .u64 0)],false⟩
theorem ty12:TyOk Tryz.prog 12 ti12:=TyOk.of Tryz.underlying12 (show TK.ok _ (.int .u64) _ from rfl) (.int .u64 0) (by kernel_rfl) rfl rfl rfl rfl (by decide) (fun h=>by cases h)
def ti13:TyI:=⟨.struct [(0,9,1),(1,12,1)],2,24,[(.string .empty),(.int .u64 0)],false⟩
theorem ty13:TyOk Tryz.prog 13 ti13:=TyOk.of Tryz.underlying13 (show TK.ok _ (.struct [(0,9,1),(1,12,1)]) _ from ⟨_,rfl,rfl,fun x hx=>by simp only [U8,List.not_mem_nil,or_false] at hx;rcases hx with rfl | rfl<;>exact ⟨by kernel_rfl,by decide⟩⟩) (.agg #[(.string .empty),(.int .u64 0)]) (by kernel_rfl) rfl rfl rfl rfl (by decide) (fun h=>by cases h)
def ti14:TyI:=⟨.struct [(0,9,1),(1,12,1)],2,24,[(.string .empty),(.int .u64 0)],false⟩
theorem ty14:TyOk Tryz.prog 14 ti14:=TyOk.of Tryz.underlying14 (show TK.ok _ (.struct [(0,9,1),(1,12,1)]) _ from ⟨_,rfl,rfl,fun x hx=>by simp only [U8,List.not_mem_nil,or_false] at hx;rcases hx with rfl | rfl<;>exact ⟨by kernel_rfl,by decide⟩⟩) (.agg #[(.string .empty),(.int .u64 0)]) (by kernel_rfl) rfl rfl rfl rfl (by decide) (fun h=>by cases h)
def ti15:TyI:=⟨.pointer 312,1,8,[(.pointer none)],false⟩
theorem ty15:TyOk Tryz.prog 15 ti15:=TyOk.of Tryz.underlying15 (show TK.ok _ (.pointer 312) _ from rfl) (.pointer none) (by kernel_rfl) rfl rfl rfl rfl (by decide) (fun h=>by cases h)
def ti16:TyI:=⟨.pointer 315,1,8,[(.pointer none)],false⟩
theorem ty16:TyOk Tryz.prog 16 ti16:=TyOk.of Tryz.underlying16 (show TK.ok _ (.pointer 315) _ from rfl) (.pointer none) (by kernel_rfl) rfl rfl rfl rfl (by decide) (fun h=>by cases h)
def ti17:TyI:=⟨.pointer 324,1,8,[(.pointer none)],false⟩
theorem ty17:TyOk Tryz.prog 17 ti17:=TyOk.of Tryz.underlying17 (show TK.ok _ (.pointer 324) _ from rfl) (.pointer none) (by kernel_rfl) rfl rfl rfl rfl (by decide) (fun h=>by cases h)
def ti18:TyI:=⟨.struct [(0,17,1)],1,8,[(.pointer none)],false⟩
theorem ty18:TyOk Tryz.prog 18 ti18:=TyOk.of Tryz.underlying18 (show TK.ok _ (.struct [(0,17,1)]) _ from ⟨_,rfl,rfl,fun x hx=>by simp only [U8,List.not_mem_nil,or_false] at hx;rcases hx with rfl<;>exact ⟨by kernel_rfl,by decide⟩⟩) (.agg #[(.pointer none)]) (by kernel_rfl) rfl rfl rfl rfl (by decide) (fun h=>by cases h)
def ti19:TyI:=⟨.struct [(0,17,1)],1,8,[(.pointer none)],false⟩
theorem ty19:TyOk Tryz.prog 19 ti19:=TyOk.of Tryz.underlying19 (show TK.ok _ (.struct [(0,17,1)]) _ from ⟨_,rfl,rfl,fun x hx=>by simp only [U8,List.not_mem_nil,or_false] at hx;rcases hx with rfl<;>exact ⟨by kernel_rfl,by decide⟩⟩) (.agg #[(.pointer none)]) (by kernel_rfl) rfl rfl rfl rfl (by decide) (fun h=>by cases h)
def ti21:TyI:=⟨.int .i32,1,4,[(.int .i32 0)],false⟩
theorem ty21:TyOk Tryz.prog 21 ti21:=TyOk.of Tryz.underlying21 (show TK.ok _ (.int .i32) _ from rfl) (.int .i32 0) (by kernel_rfl) rfl rfl rfl rfl (by decide) (fun h=>by cases h)
def ti22:TyI:=⟨.slice 5,1,24,[(.slice none 0 0)],false⟩
theorem ty22:TyOk Tryz.prog 22 ti22:=TyOk.of Tryz.underlying22 (show TK.ok _ (.slice 5) _ from rfl) (.slice none 0 0) (by kernel_rfl) rfl rfl rfl rfl (by decide) (fun h=>by cases h)
def ti23:TyI:=⟨.slice 226,1,24,[(.slice none 0 0)],false⟩
theorem ty23:TyOk Tryz.prog 23 ti23:=TyOk.of Tryz.underlying23 (show TK.ok _ (.slice 226) _ from rfl) (.slice none 0 0) (by kernel_rfl) rfl rfl rfl rfl (by decide) (fun h=>by cases h)
def ti24:TyI:=⟨.struct [(0,3,1),(1,3,1)],2,16,[(.int .i64 0),(.int .i64 0)],false⟩
theorem ty24:TyOk Tryz.prog 24 ti24:=TyOk.of Tryz.underlying24 (show TK.ok _ (.struct [(0,3,1),(1,3,1)]) _ from ⟨_,rfl,rfl,fun x hx=>by simp only [U8,List.not_mem_nil,or_false] at hx;rcases hx with rfl | rfl<;>exact ⟨by kernel_rfl,by decide⟩⟩) (.agg #[(.int .i64 0),(.int .i64 0)]) (by kernel_rfl) rfl rfl rfl rfl (by decide) (fun h=>by cases h)
def ti25:TyI:=⟨.struct [(0,3,1),(1,3,1)],2,16,[(.int .i64 0),(.int .i64 0)],true⟩
theorem ty25:TyOk Tryz.prog 25 ti25:=TyOk.of Tryz.underlying25 (show TK.ok _ (.struct [(0,3,1),(1,3,1)]) _ from ⟨_,rfl,rfl,fun x hx=>by simp only [U8,List.not_mem_nil,or_false] at hx;rcases hx with rfl | rfl<;>exact ⟨by kernel_rfl,by decide⟩⟩) (.agg #[(.int .i64 0),(.int .i64 0)]) (by kernel_rfl) rfl rfl rfl rfl (by decide) (fun _ fs h=>by cases h;exact ⟨by kernel_rfl,by kernel_rfl,by kernel_rfl,by kernel_rfl⟩)
def ti26:TyI:=⟨.slice 74,1,24,[(.slice none 0 0)],false⟩
theorem ty26:TyOk Tryz.prog 26 ti26:=TyOk.of Tryz.underlying26 (show TK.ok _ (.slice 74) _ from rfl) (.slice none 0 0) (by kernel_rfl) rfl rfl rfl rfl (by decide) (fun h=>by cases h)
def ti27:TyI:=⟨.slice 29,1,24,[(.slice none 0 0)],false⟩
theorem ty27:TyOk Tryz.prog 27 ti27:=TyOk.of Tryz.underlying27 (show TK.ok _ (.slice 29) _ from rfl) (.slice none 0 0) (by kernel_rfl) rfl rfl rfl rfl (by decide) (fun h=>by cases h)
def ti28:TyI:=⟨.struct [(0,3,1),(1,3,1),(2,27,1)],3,40,[(.int .i64 0),(.int .i64 0),(.slice none 0 0)],false⟩
theorem ty28:TyOk Tryz.prog 28 ti28:=TyOk.of Tryz.underlying28 (show TK.ok _ (.struct [(0,3,1),(1,3,1),(2,27,1)]) _ from ⟨_,rfl,rfl,fun x hx=>by simp only [U8,List.not_mem_nil,or_false] at hx;rcases hx with rfl | rfl | rfl<;>exact ⟨by kernel_rfl,by decide⟩⟩) (.agg #[(.int .i64 0),(.int .i64 0),(.slice none 0 0)]) (by kernel_rfl) rfl rfl rfl rfl (by decide) (fun h=>by cases h)
def ti29:TyI:=⟨.struct [(0,3,1),(1,3,1),(2,27,1)],3,40,[(.int .i64 0),(.int .i64 0),(.slice none 0 0)],false⟩
theorem ty29:TyOk Tryz.prog 29 ti29:=TyOk.of Tryz.underlying29 (show TK.ok _ (.struct [(0,3,1),(1,3,1),(2,27,1)]) _ from ⟨_,rfl,rfl,fun x hx=>by simp only [U8,List.not_mem_nil,or_false] at hx;rcases hx with rfl | rfl | rfl<;>exact ⟨by kernel_rfl,by decide⟩⟩) (.agg #[(.int .i64 0),(.int .i64 0),(.slice none 0 0)]) (by kernel_rfl) rfl rfl rfl rfl (by decide) (fun h=>by cases h)
def ti32:TyI:=⟨.slice 35,1,24,[(.slice none 0 0)],false⟩
theorem ty32:TyOk Tryz.prog 32 ti32:=TyOk.of Tryz.underlying32 (show TK.ok _ (.slice 35) _ from rfl) (.slice none 0 0) (by kernel_rfl) rfl rfl rfl rfl (by decide) (fun h=>by cases h)
def ti35:TyI:=⟨.slice 3,1,24,[(.slice none 0 0)],false⟩
theorem ty35:TyOk Tryz.prog 35 ti35:=TyOk.of Tryz.underlying35 (show TK.ok _ (.slice 3) _ from rfl) (.slice none 0 0) (by kernel_rfl) rfl rfl rfl rfl (by decide) (fun h=>by cases h)
def ti37:TyI:=⟨.slice 144,1,24,[(.slice none 0 0)],false⟩
theorem ty37:TyOk Tryz.prog 37 ti37:=TyOk.of Tryz.underlying37 (show TK.ok _ (.slice 144) _ from rfl) (.slice none 0 0) (by kernel_rfl) rfl rfl rfl rfl (by decide) (fun h=>by cases h)
def ti49:TyI:=⟨.slice 56,1,24,[(.slice none 0 0)],false⟩
theorem ty49:TyOk Tryz.prog 49 ti49:=TyOk.of Tryz.underlying49 (show TK.ok _ (.slice 56) _ from rfl) (.slice none 0 0) (by kernel_rfl) rfl rfl rfl rfl (by decide) (fun h=>by cases h)
def ti54:TyI:=⟨.slice 105,1,24,[(.slice none 0 0)],false⟩
theorem ty54:TyOk Tryz.prog 54 ti54:=TyOk.of Tryz.underlying54 (show TK.ok _ (.slice 105) _ from rfl) (.slice none 0 0) (by kernel_rfl) rfl rfl rfl rfl (by decide) (fun h=>by cases h)
def ti55:TyI:=⟨.struct [(0,3,1),(1,35,1),(2,3,1),(3,3,1),(4,3,1),(5,3,1),(6,54,1),(7,3,1)],8,96,[(.int .i64 0),(.slice none 0 0),(.int .i64 0),(.int .i64 0),(.int .i64 0),(.int .i64 0),(.slice none 0 0),(.int .i64 0)],false⟩
theorem ty55:TyOk Tryz.prog 55 ti55:=TyOk.of Tryz.underlying55 (show TK.ok _ (.struct [(0,3,1),(1,35,1),(2,3,1),(3,3,1),(4,3,1),(5,3,1),(6,54,1),(7,3,1)]) _ from ⟨_,rfl,rfl,fun x hx=>by simp only [U8,List.not_mem_nil,or_false] at hx;rcases hx with rfl | rfl | rfl | rfl | rfl | rfl | rfl | rfl<;>exact ⟨by kernel_rfl,by decide⟩⟩) (.agg #[(.int .i64 0),(.slice none 0 0),(.int .i64 0),(.int .i64 0),(.int .i64 0),(.int .i64 0),(.slice none 0 0),(.int .i64 0)]) (by kernel_rfl) rfl rfl rfl rfl (by decide) (fun h=>by cases h)
def ti56:TyI:=⟨.struct [(0,3,1),(1,35,1),(2,3,1),(3,3,1),(4,3,1),(5,3,1),(6,54,1),(7,3,1)],8,96,[(.int .i64 0),(.slice none 0 0),(.int .i64 0),(.int .i64 0),(.int .i64 0),(.int .i64 0),(.slice none 0 0),(.int .i64 0)],false⟩
theorem ty56:TyOk Tryz.prog 56 ti56:=TyOk.of Tryz.underlying56 (show TK.ok _ (.struct [(0,3,1),(1,35,1),(2,3,1),(3,3,1),(4,3,1),(5,3,1),(6,54,1),(7,3,1)]) _ from ⟨_,rfl,rfl,fun x hx=>by simp only [U8,List.not_mem_nil,or_false] at hx;rcases hx with rfl | rfl | rfl | rfl | rfl | rfl | rfl | rfl<;>exact ⟨by kernel_rfl,by decide⟩⟩) (.agg #[(.int .i64 0),(.slice none 0 0),(.int .i64 0),(.int .i64 0),(.int .i64 0),(.int .i64 0),(.slice none 0 0),(.int .i64 0)]) (by kernel_rfl) rfl rfl rfl rfl (by decide) (fun h=>by cases h)
def ti61:TyI:=⟨.slice 137,1,24,[(.slice none 0 0)],false⟩
theorem ty61:TyOk Tryz.prog 61 ti61:=TyOk.of Tryz.underlying61 (show TK.ok _ (.slice 137) _ from rfl) (.slice none 0 0) (by kernel_rfl) rfl rfl rfl rfl (by decide) (fun h=>by cases h)
def ti62:TyI:=⟨.slice 64,1,24,[(.slice none 0 0)],false⟩
theorem ty62:TyOk Tryz.prog 62 ti62:=TyOk.of Tryz.underlying62 (show TK.ok _ (.slice 64) _ from rfl) (.slice none 0 0) (by kernel_rfl) rfl rfl rfl rfl (by decide) (fun h=>by cases h)
def ti63:TyI:=⟨.struct [(0,3,1),(1,3,1),(2,54,1),(3,35,1),(4,61,1),(5,62,1)],6,112,[(.int .i64 0),(.int .i64 0),(.slice none 0 0),(.slice none 0 0),(.slice none 0 0),(.slice none 0 0)],false⟩
theorem ty63:TyOk Tryz.prog 63 ti63:=TyOk.of Tryz.underlying63 (show TK.ok _ (.struct [(0,3,1),(1,3,1),(2,54,1),(3,35,1),(4,61,1),(5,62,1)]) _ from ⟨_,rfl,rfl,fun x hx=>by simp only [U8,List.not_mem_nil,or_false] at hx;rcases hx with rfl | rfl | rfl | rfl | rfl | rfl<;>exact ⟨by kernel_rfl,by decide⟩⟩) (.agg #[(.int .i64 0),(.int .i64 0),(.slice none 0 0),(.slice none 0 0),(.slice none 0 0),(.slice none 0 0)]) (by kernel_rfl) rfl rfl rfl rfl (by decide) (fun h=>by cases h)
def ti64:TyI:=⟨.struct [(0,3,1),(1,3,1),(2,54,1),(3,35,1),(4,61,1),(5,62,1)],6,112,[(.int .i64 0),(.int .i64 0),(.slice none 0 0),(.slice none 0 0),(.slice none 0 0),(.slice none 0 0)],false⟩
theorem ty64:TyOk Tryz.prog 64 ti64:=TyOk.of Tryz.underlying64 (show TK.ok _ (.struct [(0,3,1),(1,3,1),(2,54,1),(3,35,1),(4,61,1),(5,62,1)]) _ from ⟨_,rfl,rfl,fun x hx=>by simp only [U8,List.not_mem_nil,or_false] at hx;rcases hx with rfl | rfl | rfl | rfl | rfl | rfl<;>exact ⟨by kernel_rfl,by decide⟩⟩) (.agg #[(.int .i64 0),(.int .i64 0),(.slice none 0 0),(.slice none 0 0),(.slice none 0 0),(.slice none 0 0)]) (by kernel_rfl) rfl rfl rfl rfl (by decide) (fun h=>by cases h)
def ti68:TyI:=⟨.slice 70,1,24,[(.slice none 0 0)],false⟩
theorem ty68:TyOk Tryz.prog 68 ti68:=TyOk.of Tryz.underlying68 (show TK.ok _ (.slice 70) _ from rfl) (.slice none 0 0) (by kernel_rfl) rfl rfl rfl rfl (by decide) (fun h=>by cases h)
def ti69:TyI:=⟨.struct [(0,3,1),(1,3,1),(2,3,1),(3,3,1),(4,3,1),(5,68,1)],6,64,[(.int .i64 0),(.int .i64 0),(.int .i64 0),(.int .i64 0),(.int .i64 0),(.slice none 0 0)],false⟩
theorem ty69:TyOk Tryz.prog 69 ti69:=TyOk.of Tryz.underlying69 (show TK.ok _ (.struct [(0,3,1),(1,3,1),(2,3,1),(3,3,1),(4,3,1),(5,68,1)]) _ from ⟨_,rfl,rfl,fun x hx=>by simp only [U8,List.not_mem_nil,or_false] at hx;rcases hx with rfl | rfl | rfl | rfl | rfl | rfl<;>exact ⟨by kernel_rfl,by decide⟩⟩) (.agg #[(.int .i64 0),(.int .i64 0),(.int .i64 0),(.int .i64 0),(.int .i64 0),(.slice none 0 0)]) (by kernel_rfl) rfl rfl rfl rfl (by decide) (fun h=>by cases h)
def ti70:TyI:=⟨.struct [(0,3,1),(1,3,1),(2,3,1),(3,3,1),(4,3,1),(5,68,1)],6,64,[(.int .i64 0),(.int .i64 0),(.int .i64 0),(.int .i64 0),(.int .i64 0),(.slice none 0 0)],false⟩
theorem ty70:TyOk Tryz.prog 70 ti70:=TyOk.of Tryz.underlying70 (show TK.ok _ (.struct [(0,3,1),(1,3,1),(2,3,1),(3,3,1),(4,3,1),(5,68,1)]) _ from ⟨_,rfl,rfl,fun x hx=>by simp only [U8,List.not_mem_nil,or_false] at hx;rcases hx with rfl | rfl | rfl | rfl | rfl | rfl<;>exact ⟨by kernel_rfl,by decide⟩⟩) (.agg #[(.int .i64 0),(.int .i64 0),(.int .i64 0),(.int .i64 0),(.int .i64 0),(.slice none 0 0)]) (by kernel_rfl) rfl rfl rfl rfl (by decide) (fun h=>by cases h)
def ti71:TyI:=⟨.struct [(0,3,1),(1,3,1),(2,3,1)],3,24,[(.int .i64 0),(.int .i64 0),(.int .i64 0)],false⟩
theorem ty71:TyOk Tryz.prog 71 ti71:=TyOk.of Tryz.underlying71 (show TK.ok _ (.struct [(0,3,1),(1,3,1),(2,3,1)]) _ from ⟨_,rfl,rfl,fun x hx=>by simp only [U8,List.not_mem_nil,or_false] at hx;rcases hx with rfl | rfl | rfl<;>exact ⟨by kernel_rfl,by decide⟩⟩) (.agg #[(.int .i64 0),(.int .i64 0),(.int .i64 0)]) (by kernel_rfl) rfl rfl rfl rfl (by decide) (fun h=>by cases h)
def ti72:TyI:=⟨.struct [(0,3,1),(1,3,1),(2,3,1)],3,24,[(.int .i64 0),(.int .i64 0),(.int .i64 0)],true⟩
theorem ty72:TyOk Tryz.prog 72 ti72:=TyOk.of Tryz.underlying72 (show TK.ok _ (.struct [(0,3,1),(1,3,1),(2,3,1)]) _ from ⟨_,rfl,rfl,fun x hx=>by simp only [U8,List.not_mem_nil,or_false] at hx;rcases hx with rfl | rfl | rfl<;>exact ⟨by kernel_rfl,by decide⟩⟩) (.agg #[(.int .i64 0),(.int .i64 0),(.int .i64 0)]) (by kernel_rfl) rfl rfl rfl rfl (by decide) (fun _ fs h=>by cases h;exact ⟨by kernel_rfl,by kernel_rfl,by kernel_rfl,by kernel_rfl⟩)
def ti73:TyI:=⟨.struct [(0,70,6),(6,72,3)],9,88,[(.int .i64 0),(.int .i64 0),(.int .i64 0),(.int .i64 0),(.int .i64 0),(.slice none 0 0),(.int .i64 0),(.int .i64 0),(.int .i64 0)],false⟩
theorem ty73:TyOk Tryz.prog 73 ti73:=TyOk.of Tryz.underlying73 (show TK.ok _ (.struct [(0,70,6),(6,72,3)]) _ from ⟨_,rfl,rfl,fun x hx=>by simp only [U8,List.not_mem_nil,or_false] at hx;rcases hx with rfl | rfl<;>exact ⟨by kernel_rfl,by decide⟩⟩) (.agg #[(.int .i64 0),(.int .i64 0),(.int .i64 0),(.int .i64 0),(.int .i64 0),(.slice none 0 0),(.int .i64 0),(.int .i64 0),(.int .i64 0)]) (by kernel_rfl) rfl rfl rfl rfl (by decide) (fun h=>by cases h)
def ti74:TyI:=⟨.struct [(0,70,6),(6,72,3)],9,88,[(.int .i64 0),(.int .i64 0),(.int .i64 0),(.int .i64 0),(.int .i64 0),(.slice none 0 0),(.int .i64 0),(.int .i64 0),(.int .i64 0)],false⟩
theorem ty74:TyOk Tryz.prog 74 ti74:=TyOk.of Tryz.underlying74 (show TK.ok _ (.struct [(0,70,6),(6,72,3)]) _ from ⟨_,rfl,rfl,fun x hx=>by simp only [U8,List.not_mem_nil,or_false] at hx;rcases hx with rfl | rfl<;>exact ⟨by kernel_rfl,by decide⟩⟩) (.agg #[(.int .i64 0),(.int .i64 0),(.int .i64 0),(.int .i64 0),(.int .i64 0),(.slice none 0 0),(.int .i64 0),(.int .i64 0),(.int .i64 0)]) (by kernel_rfl) rfl rfl rfl rfl (by decide) (fun h=>by cases h)
def ti87:TyI:=⟨.pointer 147,1,8,[(.pointer none)],false⟩
theorem ty87:TyOk Tryz.prog 87 ti87:=TyOk.of Tryz.underlying87 (show TK.ok _ (.pointer 147) _ from rfl) (.pointer none) (by kernel_rfl) rfl rfl rfl rfl (by decide) (fun h=>by cases h)
def ti97:TyI:=⟨.slice 68,1,24,[(.slice none 0 0)],false⟩
theorem ty97:TyOk Tryz.prog 97 ti97:=TyOk.of Tryz.underlying97 (show TK.ok _ (.slice 68) _ from rfl) (.slice none 0 0) (by kernel_rfl) rfl rfl rfl rfl (by decide) (fun h=>by cases h)
def V9a:TyI:=⟨.pointer 49,1,8,[(.pointer none)],false⟩
theorem Y4g:TyOk Tryz.prog 101 V9a:=TyOk.of Tryz.underlying101 (show TK.ok _ (.pointer 49) _ from rfl) (.pointer none) (by kernel_rfl) rfl rfl rfl rfl (by decide) (fun h=>by cases h)
def V99:TyI:=⟨.pointer 54,1,8,[(.pointer none)],false⟩
theorem Y4f:TyOk Tryz.prog 102 V99:=TyOk.of Tryz.underlying102 (show TK.ok _ (.pointer 54) _ from rfl) (.pointer none) (by kernel_rfl) rfl rfl rfl rfl (by decide) (fun h=>by cases h)
def V98:TyI:=⟨.struct [(0,3,1),(1,35,1)],2,32,[(.int .i64 0),(.slice none 0 0)],false⟩
theorem Y4e:TyOk Tryz.prog 104 V98:=TyOk.of Tryz.underlying104 (show TK.ok _ (.struct [(0,3,1),(1,35,1)]) _ from ⟨_,rfl,rfl,fun x hx=>by simp only [U8,List.not_mem_nil,or_false] at hx;rcases hx with rfl | rfl<;>exact ⟨by kernel_rfl,by decide⟩⟩) (.agg #[(.int .i64 0),(.slice none 0 0)]) (by kernel_rfl) rfl rfl rfl rfl (by decide) (fun h=>by cases h)
def V97:TyI:=⟨.struct [(0,3,1),(1,35,1)],2,32,[(.int .i64 0),(.slice none 0 0)],false⟩
theorem Y4d:TyOk Tryz.prog 105 V97:=TyOk.of Tryz.underlying105 (show TK.ok _ (.struct [(0,3,1),(1,35,1)]) _ from ⟨_,rfl,rfl,fun x hx=>by simp only [U8,List.not_mem_nil,or_false] at hx;rcases hx with rfl | rfl<;>exact ⟨by kernel_rfl,by decide⟩⟩) (.agg #[(.int .i64 0),(.slice none 0 0)]) (by kernel_rfl) rfl rfl rfl rfl (by decide) (fun h=>by cases h)
def V96:TyI:=⟨.pointer 3,1,8,[(.pointer none)],false⟩
theorem Y4c:TyOk Tryz.prog 109 V96:=TyOk.of Tryz.underlying109 (show TK.ok _ (.pointer 3) _ from rfl) (.pointer none) (by kernel_rfl) rfl rfl rfl rfl (by decide) (fun h=>by cases h)
def V95:TyI:=⟨.slice 123,1,24,[(.slice none 0 0)],false⟩
theorem Y4b:TyOk Tryz.prog 121 V95:=TyOk.of Tryz.underlying121 (show TK.ok _ (.slice 123) _ from rfl) (.slice none 0 0) (by kernel_rfl) rfl rfl rfl rfl (by decide) (fun h=>by cases h)
def V94:TyI:=⟨.struct [(0,3,1),(1,68,1),(2,54,1)],3,56,[(.int .i64 0),(.slice none 0 0),(.slice none 0 0)],false⟩
theorem Y4a:TyOk Tryz.prog 122 V94:=TyOk.of Tryz.underlying122 (show TK.ok _ (.struct [(0,3,1),(1,68,1),(2,54,1)]) _ from ⟨_,rfl,rfl,fun x hx=>by simp only [U8,List.not_mem_nil,or_false] at hx;rcases hx with rfl | rfl | rfl<;>exact ⟨by kernel_rfl,by decide⟩⟩) (.agg #[(.int .i64 0),(.slice none 0 0),(.slice none 0 0)]) (by kernel_rfl) rfl rfl rfl rfl (by decide) (fun h=>by cases h)
def V93:TyI:=⟨.struct [(0,3,1),(1,68,1),(2,54,1)],3,56,[(.int .i64 0),(.slice none 0 0),(.slice none 0 0)],false⟩
theorem Y49:TyOk Tryz.prog 123 V93:=TyOk.of Tryz.underlying123 (show TK.ok _ (.struct [(0,3,1),(1,68,1),(2,54,1)]) _ from ⟨_,rfl,rfl,fun x hx=>by simp only [U8,List.not_mem_nil,or_false] at hx;rcases hx with rfl | rfl | rfl<;>exact ⟨by kernel_rfl,by decide⟩⟩) (.agg #[(.int .i64 0),(.slice none 0 0),(.slice none 0 0)]) (by kernel_rfl) rfl rfl rfl rfl (by decide) (fun h=>by cases h)
def V92:TyI:=⟨.pointer 129,1,8,[(.pointer none)],false⟩
theorem Y48:TyOk Tryz.prog 125 V92:=TyOk.of Tryz.underlying125 (show TK.ok _ (.pointer 129) _ from rfl) (.pointer none) (by kernel_rfl) rfl rfl rfl rfl (by decide) (fun h=>by cases h)
def V91:TyI:=⟨.pointer 182,1,8,[(.pointer none)],false⟩
theorem Y47:TyOk Tryz.prog 126 V91:=TyOk.of Tryz.underlying126 (show TK.ok _ (.pointer 182) _ from rfl) (.pointer none) (by kernel_rfl) rfl rfl rfl rfl (by decide) (fun h=>by cases h)
def V90:TyI:=⟨.struct [(0,126,1),(1,26,1),(2,3,1),(3,3,1)],4,48,[(.pointer none),(.slice none 0 0),(.int .i64 0),(.int .i64 0)],false⟩
theorem Y46:TyOk Tryz.prog 128 V90:=TyOk.of Tryz.underlying128 (show TK.ok _ (.struct [(0,126,1),(1,26,1),(2,3,1),(3,3,1)]) _ from ⟨_,rfl,rfl,fun x hx=>by simp only [U8,List.not_mem_nil,or_false] at hx;rcases hx with rfl | rfl | rfl | rfl<;>exact ⟨by kernel_rfl,by decide⟩⟩) (.agg #[(.pointer none),(.slice none 0 0),(.int .i64 0),(.int .i64 0)]) (by kernel_rfl) rfl rfl rfl rfl (by decide) (fun h=>by cases h)
def V8z:TyI:=⟨.struct [(0,126,1),(1,26,1),(2,3,1),(3,3,1)],4,48,[(.pointer none),(.slice none 0 0),(.int .i64 0),(.int .i64 0)],false⟩
theorem Y45:TyOk Tryz.prog 129 V8z:=TyOk.of Tryz.underlying129 (show TK.ok _ (.struct [(0,126,1),(1,26,1),(2,3,1),(3,3,1)]) _ from ⟨_,rfl,rfl,fun x hx=>by simp only [U8,List.not_mem_nil,or_false] at hx;rcases hx with rfl | rfl | rfl | rfl<;>exact ⟨by kernel_rfl,by decide⟩⟩) (.agg #[(.pointer none),(.slice none 0 0),(.int .i64 0),(.int .i64 0)]) (by kernel_rfl) rfl rfl rfl rfl (by decide) (fun h=>by cases h)
def V8y:TyI:=⟨.struct [(0,35,1),(1,25,2)],3,40,[(.slice none 0 0),(.int .i64 0),(.int .i64 0)],false⟩
theorem Y44:TyOk Tryz.prog 131 V8y:=TyOk.of Tryz.underlying131 (show TK.ok _ (.struct [(0,35,1),(1,25,2)]) _ from ⟨_,rfl,rfl,fun x hx=>by simp only [U8,List.not_mem_nil,or_false] at hx;rcases hx with rfl | rfl<;>exact ⟨by kernel_rfl,by decide⟩⟩) (.agg #[(.slice none 0 0),(.int .i64 0),(.int .i64 0)]) (by kernel_rfl) rfl rfl rfl rfl (by decide) (fun h=>by cases h)
def V8x:TyI:=⟨.struct [(0,35,1),(1,25,2)],3,40,[(.slice none 0 0),(.int .i64 0),(.int .i64 0)],false⟩
theorem Y43:TyOk Tryz.prog 132 V8x:=TyOk.of Tryz.underlying132 (show TK.ok _ (.struct [(0,35,1),(1,25,2)]) _ from ⟨_,rfl,rfl,fun x hx=>by simp only [U8,List.not_mem_nil,or_false] at hx;rcases hx with rfl | rfl<;>exact ⟨by kernel_rfl,by decide⟩⟩) (.agg #[(.slice none 0 0),(.int .i64 0),(.int .i64 0)]) (by kernel_rfl) rfl rfl rfl rfl (by decide) (fun h=>by cases h)
def V8w:TyI:=⟨.slice 132,1,24,[(.slice none 0 0)],false⟩
theorem Y42:TyOk Tryz.prog 133 V8w:=TyOk.of Tryz.underlying133 (show TK.ok _ (.slice 132) _ from rfl) (.slice none 0 0) (by kernel_rfl) rfl rfl rfl rfl (by decide) (fun h=>by cases h)
def V8v:TyI:=⟨.struct [(0,3,1),(1,3,1),(2,3,1),(3,64,6)],9,136,[(.int .i64 0),(.int .i64 0),(.int .i64 0),(.int .i64 0),(.int .i64 0),(.slice none 0 0),(.slice none 0 0),(.slice none 0 0),(.slice none 0 0)],false⟩
theorem Y41:TyOk Tryz.prog 136 V8v:=TyOk.of Tryz.underlying136 (show TK.ok _ (.struct [(0,3,1),(1,3,1),(2,3,1),(3,64,6)]) _ from ⟨_,rfl,rfl,fun x hx=>by simp only [U8,List.not_mem_nil,or_false] at hx;rcases hx with rfl | rfl | rfl | rfl<;>exact ⟨by kernel_rfl,by decide⟩⟩) (.agg #[(.int .i64 0),(.int .i64 0),(.int .i64 0),(.int .i64 0),(.int .i64 0),(.slice none 0 0),(.slice none 0 0),(.slice none 0 0),(.slice none 0 0)]) (by kernel_rfl) rfl rfl rfl rfl (by decide) (fun h=>by cases h)
def V8u:TyI:=⟨.struct [(0,3,1),(1,3,1),(2,3,1),(3,64,6)],9,136,[(.int .i64 0),(.int .i64 0),(.int .i64 0),(.int .i64 0),(.int .i64 0),(.slice none 0 0),(.slice none 0 0),(.slice none 0 0),(.slice none 0 0)],false⟩
theorem Y40:TyOk Tryz.prog 137 V8u:=TyOk.of Tryz.underlying137 (show TK.ok _ (.struct [(0,3,1),(1,3,1),(2,3,1),(3,64,6)]) _ from ⟨_,rfl,rfl,fun x hx=>by simp only [U8,List.not_mem_nil,or_false] at hx;rcases hx with rfl | rfl | rfl | rfl<;>exact ⟨by kernel_rfl,by decide⟩⟩) (.agg #[(.int .i64 0),(.int .i64 0),(.int .i64 0),(.int .i64 0),(.int .i64 0),(.slice none 0 0),(.slice none 0 0),(.slice none 0 0),(.slice none 0 0)]) (by kernel_rfl) rfl rfl rfl rfl (by decide) (fun h=>by cases h)
def V8t:TyI:=⟨.struct [(0,3,1),(1,29,3)],4,48,[(.int .i64 0),(.int .i64 0),(.int .i64 0),(.slice none 0 0)],false⟩
theorem Y3z:TyOk Tryz.prog 143 V8t:=TyOk.of Tryz.underlying143 (show TK.ok _ (.struct [(0,3,1),(1,29,3)]) _ from ⟨_,rfl,rfl,fun x hx=>by simp only [U8,List.not_mem_nil,or_false] at hx;rcases hx with rfl | rfl<;>exact ⟨by kernel_rfl,by decide⟩⟩) (.agg #[(.int .i64 0),(.int .i64 0),(.int .i64 0),(.slice none 0 0)]) (by kernel_rfl) rfl rfl rfl rfl (by decide) (fun h=>by cases h)
def V8s:TyI:=⟨.struct [(0,3,1),(1,29,3)],4,48,[(.int .i64 0),(.int .i64 0),(.int .i64 0),(.slice none 0 0)],false⟩
theorem Y3y:TyOk Tryz.prog 144 V8s:=TyOk.of Tryz.underlying144 (show TK.ok _ (.struct [(0,3,1),(1,29,3)]) _ from ⟨_,rfl,rfl,fun x hx=>by simp only [U8,List.not_mem_nil,or_false] at hx;rcases hx with rfl | rfl<;>exact ⟨by kernel_rfl,by decide⟩⟩) (.agg #[(.int .i64 0),(.int .i64 0),(.int .i64 0),(.slice none 0 0)]) (by kernel_rfl) rfl rfl rfl rfl (by decide) (fun h=>by cases h)
def V8r:TyI:=⟨.struct [(0,22,1),(1,3,1)],2,32,[(.slice none 0 0),(.int .i64 0)],false⟩
theorem Y3x:TyOk Tryz.prog 146 V8r:=TyOk.of Tryz.underlying146 (show TK.ok _ (.struct [(0,22,1),(1,3,1)]) _ from ⟨_,rfl,rfl,fun x hx=>by simp only [U8,List.not_mem_nil,or_false] at hx;rcases hx with rfl | rfl<;>exact ⟨by kernel_rfl,by decide⟩⟩) (.agg #[(.slice none 0 0),(.int .i64 0)]) (by kernel_rfl) rfl rfl rfl rfl (by decide) (fun h=>by cases h)
def V8q:TyI:=⟨.struct [(0,22,1),(1,3,1)],2,32,[(.slice none 0 0),(.int .i64 0)],false⟩
theorem Y3w:TyOk Tryz.prog 147 V8q:=TyOk.of Tryz.underlying147 (show TK.ok _ (.struct [(0,22,1),(1,3,1)]) _ from ⟨_,rfl,rfl,fun x hx=>by simp only [U8,List.not_mem_nil,or_false] at hx;rcases hx with rfl | rfl<;>exact ⟨by kernel_rfl,by decide⟩⟩) (.agg #[(.slice none 0 0),(.int .i64 0)]) (by kernel_rfl) rfl rfl rfl rfl (by decide) (fun h=>by cases h)
def V8p:TyI:=⟨.int .u64,1,8,[(.int .u64 0)],false⟩
theorem Y3v:TyOk Tryz.prog 164 V8p:=TyOk.of Tryz.underlying164 (show TK.ok _ (.int .u64) _ from rfl) (.int .u64 0) (by kernel_rfl) rfl rfl rfl rfl (by decide) (fun h=>by cases h)
def V8o:TyI:=⟨.slice 25,1,24,[(.slice none 0 0)],false⟩
theorem Y3u:TyOk Tryz.prog 168 V8o:=TyOk.of Tryz.underlying168 (show TK.ok _ (.slice 25) _ from rfl) (.slice none 0 0) (by kernel_rfl) rfl rfl rfl rfl (by decide) (fun h=>by cases h)
def V8n:TyI:=⟨.pointer 236,1,8,[(.pointer none)],false⟩
theorem Y3t:TyOk Tryz.prog 179 V8n:=TyOk.of Tryz.underlying179 (show TK.ok _ (.pointer 236) _ from rfl) (.pointer none) (by kernel_rfl) rfl rfl rfl rfl (by decide) (fun h=>by cases h)
def V8m:TyI:=⟨.struct [(0,23,1),(1,179,1)],2,32,[(.slice none 0 0),(.pointer none)],false⟩
theorem Y3s:TyOk Tryz.prog 181 V8m:=TyOk.of Tryz.underlying181 (show TK.ok _ (.struct [(0,23,1),(1,179,1)]) _ from ⟨_,rfl,rfl,fun x hx=>by simp only [U8,List.not_mem_nil,or_false] at hx;rcases hx with rfl | rfl<;>exact ⟨by kernel_rfl,by decide⟩⟩) (.agg #[(.slice none 0 0),(.pointer none)]) (by kernel_rfl) rfl rfl rfl rfl (by decide) (fun h=>by cases h)
def V8l:TyI:=⟨.struct [(0,23,1),(1,179,1)],2,32,[(.slice none 0 0),(.pointer none)],false⟩
theorem Y3r:TyOk Tryz.prog 182 V8l:=TyOk.of Tryz.underlying182 (show TK.ok _ (.struct [(0,23,1),(1,179,1)]) _ from ⟨_,rfl,rfl,fun x hx=>by simp only [U8,List.not_mem_nil,or_false] at hx;rcases hx with rfl | rfl<;>exact ⟨by kernel_rfl,by decide⟩⟩) (.agg #[(.slice none 0 0),(.pointer none)]) (by kernel_rfl) rfl rfl rfl rfl (by decide) (fun h=>by cases h)
def V8k:TyI:=⟨.struct [(0,35,1),(1,25,2)],3,40,[(.slice none 0 0),(.int .i64 0),(.int .i64 0)],false⟩
theorem Y3q:TyOk Tryz.prog 195 V8k:=TyOk.of Tryz.underlying195 (show TK.ok _ (.struct [(0,35,1),(1,25,2)]) _ from ⟨_,rfl,rfl,fun x hx=>by simp only [U8,List.not_mem_nil,or_false] at hx;rcases hx with rfl | rfl<;>exact ⟨by kernel_rfl,by decide⟩⟩) (.agg #[(.slice none 0 0),(.int .i64 0),(.int .i64 0)]) (by kernel_rfl) rfl rfl rfl rfl (by decide) (fun h=>by cases h)
def V8j:TyI:=⟨.struct [(0,35,1),(1,25,2)],3,40,[(.slice none 0 0),(.int .i64 0),(.int .i64 0)],false⟩
theorem Y3p:TyOk Tryz.prog 196 V8j:=TyOk.of Tryz.underlying196 (show TK.ok _ (.struct [(0,35,1),(1,25,2)]) _ from ⟨_,rfl,rfl,fun x hx=>by simp only [U8,List.not_mem_nil,or_false] at hx;rcases hx with rfl | rfl<;>exact ⟨by kernel_rfl,by decide⟩⟩) (.agg #[(.slice none 0 0),(.int .i64 0),(.int .i64 0)]) (by kernel_rfl) rfl rfl rfl rfl (by decide) (fun h=>by cases h)
def V8i:TyI:=⟨.slice 196,1,24,[(.slice none 0 0)],false⟩
theorem Y3o:TyOk Tryz.prog 197 V8i:=TyOk.of Tryz.underlying197 (show TK.ok _ (.slice 196) _ from rfl) (.slice none 0 0) (by kernel_rfl) rfl rfl rfl rfl (by decide) (fun h=>by cases h)
def V8h:TyI:=⟨.slice 248,1,24,[(.slice none 0 0)],false⟩
theorem Y3n:TyOk Tryz.prog 198 V8h:=TyOk.of Tryz.underlying198 (show TK.ok _ (.slice 248) _ from rfl) (.slice none 0 0) (by kernel_rfl) rfl rfl rfl rfl (by decide) (fun h=>by cases h)
def V8g:TyI:=⟨.slice 27,1,24,[(.slice none 0 0)],false⟩
theorem Y3m:TyOk Tryz.prog 200 V8g:=TyOk.of Tryz.underlying200 (show TK.ok _ (.slice 27) _ from rfl) (.slice none 0 0) (by kernel_rfl) rfl rfl rfl rfl (by decide) (fun h=>by cases h)
def V8f:TyI:=⟨.slice 268,1,24,[(.slice none 0 0)],false⟩
theorem Y3l:TyOk Tryz.prog 208 V8f:=TyOk.of Tryz.underlying208 (show TK.ok _ (.slice 268) _ from rfl) (.slice none 0 0) (by kernel_rfl) rfl rfl rfl rfl (by decide) (fun h=>by cases h)
def V8e:TyI:=⟨.int .i64,1,8,[(.int .i64 0)],false⟩
theorem Y3k:TyOk Tryz.prog 213 V8e:=TyOk.of Tryz.underlying213 (show TK.ok _ (.int .i64) _ from rfl) (.int .i64 0) (by kernel_rfl) rfl rfl rfl rfl (by decide) (fun h=>by cases h)
def V8d:TyI:=⟨.int .u32,1,4,[(.int .u32 0)],false⟩
theorem Y3j:TyOk Tryz.prog 220 V8d:=TyOk.of Tryz.underlying220 (show TK.ok _ (.int .u32) _ from rfl) (.int .u32 0) (by kernel_rfl) rfl rfl rfl rfl (by decide) (fun h=>by cases h)
def V8c:TyI:=⟨.int .u64,1,8,[(.int .u64 0)],false⟩
theorem Y3i:TyOk Tryz.prog 222 V8c:=TyOk.of Tryz.underlying222 (show TK.ok _ (.int .u64) _ from rfl) (.int .u64 0) (by kernel_rfl) rfl rfl rfl rfl (by decide) (fun h=>by cases h)
def V8b:TyI:=⟨.slice 228,1,24,[(.slice none 0 0)],false⟩
theorem Y3h:TyOk Tryz.prog 224 V8b:=TyOk.of Tryz.underlying224 (show TK.ok _ (.slice 228) _ from rfl) (.slice none 0 0) (by kernel_rfl) rfl rfl rfl rfl (by decide) (fun h=>by cases h)
def V8a:TyI:=⟨.struct [(0,9,1),(1,224,1)],2,40,[(.string .empty),(.slice none 0 0)],false⟩
theorem Y3g:TyOk Tryz.prog 225 V8a:=TyOk.of Tryz.underlying225 (show TK.ok _ (.struct [(0,9,1),(1,224,1)]) _ from ⟨_,rfl,rfl,fun x hx=>by simp only [U8,List.not_mem_nil,or_false] at hx;rcases hx with rfl | rfl<;>exact ⟨by kernel_rfl,by decide⟩⟩) (.agg #[(.string .empty),(.slice none 0 0)]) (by kernel_rfl) rfl rfl rfl rfl (by decide) (fun h=>by cases h)
def V89:TyI:=⟨.struct [(0,9,1),(1,224,1)],2,40,[(.string .empty),(.slice none 0 0)],false⟩
theorem Y3f:TyOk Tryz.prog 226 V89:=TyOk.of Tryz.underlying226 (show TK.ok _ (.struct [(0,9,1),(1,224,1)]) _ from ⟨_,rfl,rfl,fun x hx=>by simp only [U8,List.not_mem_nil,or_false] at hx;rcases hx with rfl | rfl<;>exact ⟨by kernel_rfl,by decide⟩⟩) (.agg #[(.string .empty),(.slice none 0 0)]) (by kernel_rfl) rfl rfl rfl rfl (by decide) (fun h=>by cases h)
def V88:TyI:=⟨.struct [(0,9,1),(1,168,1),(2,3,1)],3,48,[(.string .empty),(.slice none 0 0),(.int .i64 0)],false⟩
theorem Y3e:TyOk Tryz.prog 227 V88:=TyOk.of Tryz.underlying227 (show TK.ok _ (.struct [(0,9,1),(1,168,1),(2,3,1)]) _ from ⟨_,rfl,rfl,fun x hx=>by simp only [U8,List.not_mem_nil,or_false] at hx;rcases hx with rfl | rfl | rfl<;>exact ⟨by kernel_rfl,by decide⟩⟩) (.agg #[(.string .empty),(.slice none 0 0),(.int .i64 0)]) (by kernel_rfl) rfl rfl rfl rfl (by decide) (fun h=>by cases h)
def V87:TyI:=⟨.struct [(0,9,1),(1,168,1),(2,3,1)],3,48,[(.string .empty),(.slice none 0 0),(.int .i64 0)],false⟩
theorem Y3d:TyOk Tryz.prog 228 V87:=TyOk.of Tryz.underlying228 (show TK.ok _ (.struct [(0,9,1),(1,168,1),(2,3,1)]) _ from ⟨_,rfl,rfl,fun x hx=>by simp only [U8,List.not_mem_nil,or_false] at hx;rcases hx with rfl | rfl | rfl<;>exact ⟨by kernel_rfl,by decide⟩⟩) (.agg #[(.string .empty),(.slice none 0 0),(.int .i64 0)]) (by kernel_rfl) rfl rfl rfl rfl (by decide) (fun h=>by cases h)
def V86:TyI:=⟨.array 4 3,4,32,[(.int .i64 0),(.int .i64 0),(.int .i64 0),(.int .i64 0)],false⟩
theorem Y3c:TyOk Tryz.prog 234 V86:=TyOk.of Tryz.underlying234 (show TK.ok _ (.array 4 3) _ from rfl) (.agg #[(.int .i64 0),(.int .i64 0),(.int .i64 0),(.int .i64 0)]) (by kernel_rfl) rfl rfl rfl rfl (by decide) (fun h=>by cases h)
def V85:TyI:=⟨.array 4 234,16,128,[(.int .i64 0),(.int .i64 0),(.int .i64 0),(.int .i64 0),(.int .i64 0),(.int .i64 0),(.int .i64 0),(.int .i64 0),(.int .i64 0),(.int .i64 0),(.int .i64 0),(.int .i64 0),(.int .i64 0),(.int .i64 0),(.int .i64 0),(.int .i64 0)],false⟩
theorem Y3b:TyOk Tryz.prog 235 V85:=TyOk.of Tryz.underlying235 (show TK.ok _ (.array 4 234) _ from rfl) (.agg #[(.int .i64 0),(.int .i64 0),(.int .i64 0),(.int .i64 0),(.int .i64 0),(.int .i64 0),(.int .i64 0),(.int .i64 0),(.int .i64 0),(.int .i64 0),(.int .i64 0),(.int .i64 0),(.int .i64 0),(.int .i64 0),(.int .i64 0),(.int .i64 0)]) (by kernel_rfl) rfl rfl rfl rfl (by decide) (fun h=>by cases h)
def V84:TyI:=⟨.array 4 234,16,128,[(.int .i64 0),(.int .i64 0),(.int .i64 0),(.int .i64 0),(.int .i64 0),(.int .i64 0),(.int .i64 0),(.int .i64 0),(.int .i64 0),(.int .i64 0),(.int .i64 0),(.int .i64 0),(.int .i64 0),(.int .i64 0),(.int .i64 0),(.int .i64 0)],false⟩
theorem Y3a:TyOk Tryz.prog 236 V84:=TyOk.of Tryz.underlying236 (show TK.ok _ (.array 4 234) _ from rfl) (.agg #[(.int .i64 0),(.int .i64 0),(.int .i64 0),(.int .i64 0),(.int .i64 0),(.int .i64 0),(.int .i64 0),(.int .i64 0),(.int .i64 0),(.int .i64 0),(.int .i64 0),(.int .i64 0),(.int .i64 0),(.int .i64 0),(.int .i64 0),(.int .i64 0)]) (by kernel_rfl) rfl rfl rfl rfl (by decide) (fun h=>by cases h)
def V83:TyI:=⟨.array 11 4,11,11,[(.bool false),(.bool false),(.bool false),(.bool false),(.bool false),(.bool false),(.bool false),(.bool false),(.bool false),(.bool false),(.bool false)],false⟩
theorem Y39:TyOk Tryz.prog 241 V83:=TyOk.of Tryz.underlying241 (show TK.ok _ (.array 11 4) _ from rfl) (.agg #[(.bool false),(.bool false),(.bool false),(.bool false),(.bool false),(.bool false),(.bool false),(.bool false),(.bool false),(.bool false),(.bool false)]) (by kernel_rfl) rfl rfl rfl rfl (by decide) (fun h=>by cases h)
def V82:TyI:=⟨.slice 133,1,24,[(.slice none 0 0)],false⟩
theorem Y38:TyOk Tryz.prog 242 V82:=TyOk.of Tryz.underlying242 (show TK.ok _ (.slice 133) _ from rfl) (.slice none 0 0) (by kernel_rfl) rfl rfl rfl rfl (by decide) (fun h=>by cases h)
def V81:TyI:=⟨.map 9 4,1,8,[(.map none)],false⟩
theorem Y37:TyOk Tryz.prog 244 V81:=TyOk.of Tryz.underlying244 (show TK.ok _ (.map 9 4) _ from rfl) (.map none) (by kernel_rfl) rfl rfl rfl rfl (by decide) (fun h=>by cases h)
def V80:TyI:=⟨.struct [(0,3,1),(1,68,1),(2,54,1)],3,56,[(.int .i64 0),(.slice none 0 0),(.slice none 0 0)],false⟩
theorem Y36:TyOk Tryz.prog 247 V80:=TyOk.of Tryz.underlying247 (show TK.ok _ (.struct [(0,3,1),(1,68,1),(2,54,1)]) _ from ⟨_,rfl,rfl,fun x hx=>by simp only [U8,List.not_mem_nil,or_false] at hx;rcases hx with rfl | rfl | rfl<;>exact ⟨by kernel_rfl,by decide⟩⟩) (.agg #[(.int .i64 0),(.slice none 0 0),(.slice none 0 0)]) (by kernel_rfl) rfl rfl rfl rfl (by decide) (fun h=>by cases h)
def V7z:TyI:=⟨.struct [(0,3,1),(1,68,1),(2,54,1)],3,56,[(.int .i64 0),(.slice none 0 0),(.slice none 0 0)],false⟩
theorem Y35:TyOk Tryz.prog 248 V7z:=TyOk.of Tryz.underlying248 (show TK.ok _ (.struct [(0,3,1),(1,68,1),(2,54,1)]) _ from ⟨_,rfl,rfl,fun x hx=>by simp only [U8,List.not_mem_nil,or_false] at hx;rcases hx with rfl | rfl | rfl<;>exact ⟨by kernel_rfl,by decide⟩⟩) (.agg #[(.int .i64 0),(.slice none 0 0),(.slice none 0 0)]) (by kernel_rfl) rfl rfl rfl rfl (by decide) (fun h=>by cases h)
def V7y:TyI:=⟨.slice 9,1,24,[(.slice none 0 0)],false⟩
theorem Y34:TyOk Tryz.prog 261 V7y:=TyOk.of Tryz.underlying261 (show TK.ok _ (.slice 9) _ from rfl) (.slice none 0 0) (by kernel_rfl) rfl rfl rfl rfl (by decide) (fun h=>by cases h)
def V7x:TyI:=⟨.struct [(0,3,1),(1,25,2)],3,24,[(.int .i64 0),(.int .i64 0),(.int .i64 0)],false⟩
theorem Y33:TyOk Tryz.prog 267 V7x:=TyOk.of Tryz.underlying267 (show TK.ok _ (.struct [(0,3,1),(1,25,2)]) _ from ⟨_,rfl,rfl,fun x hx=>by simp only [U8,List.not_mem_nil,or_false] at hx;rcases hx with rfl | rfl<;>exact ⟨by kernel_rfl,by decide⟩⟩) (.agg #[(.int .i64 0),(.int .i64 0),(.int .i64 0)]) (by kernel_rfl) rfl rfl rfl rfl (by decide) (fun h=>by cases h)
def V7w:TyI:=⟨.struct [(0,3,1),(1,25,2)],3,24,[(.int .i64 0),(.int .i64 0),(.int .i64 0)],true⟩
theorem Y32:TyOk Tryz.prog 268 V7w:=TyOk.of Tryz.underlying268 (show TK.ok _ (.struct [(0,3,1),(1,25,2)]) _ from ⟨_,rfl,rfl,fun x hx=>by simp only [U8,List.not_mem_nil,or_false] at hx;rcases hx with rfl | rfl<;>exact ⟨by kernel_rfl,by decide⟩⟩) (.agg #[(.int .i64 0),(.int .i64 0),(.int .i64 0)]) (by kernel_rfl) rfl rfl rfl rfl (by decide) (fun _ fs h=>by cases h;exact ⟨by kernel_rfl,by kernel_rfl,by kernel_rfl,by kernel_rfl⟩)
def V7v:TyI:=⟨.int .u64,1,8,[(.int .u64 0)],false⟩
theorem Y31:TyOk Tryz.prog 271 V7v:=TyOk.of Tryz.underlying271 (show TK.ok _ (.int .u64) _ from rfl) (.int .u64 0) (by kernel_rfl) rfl rfl rfl rfl (by decide) (fun h=>by cases h)
def V7u:TyI:=⟨.array 6 4,6,6,[(.bool false),(.bool false),(.bool false),(.bool false),(.bool false),(.bool false)],false⟩
theorem Y30:TyOk Tryz.prog 296 V7u:=TyOk.of Tryz.underlying296 (show TK.ok _ (.array 6 4) _ from rfl) (.agg #[(.bool false),(.bool false),(.bool false),(.bool false),(.bool false),(.bool false)]) (by kernel_rfl) rfl rfl rfl rfl (by decide) (fun h=>by cases h)
def V7t:TyI:=⟨.pointer 271,1,8,[(.pointer none)],false⟩
theorem Y2z:TyOk Tryz.prog 298 V7t:=TyOk.of Tryz.underlying298 (show TK.ok _ (.pointer 271) _ from rfl) (.pointer none) (by kernel_rfl) rfl rfl rfl rfl (by decide) (fun h=>by cases h)
def V7s:TyI:=⟨.struct [(0,17,1),(1,17,1),(2,17,1),(3,9,1)],4,40,[(.pointer none),(.pointer none),(.pointer none),(.string .empty)],false⟩
theorem Y2y:TyOk Tryz.prog 311 V7s:=TyOk.of Tryz.underlying311 (show TK.ok _ (.struct [(0,17,1),(1,17,1),(2,17,1),(3,9,1)]) _ from ⟨_,rfl,rfl,fun x hx=>by simp only [U8,List.not_mem_nil,or_false] at hx;rcases hx with rfl | rfl | rfl | rfl<;>exact ⟨by kernel_rfl,by decide⟩⟩) (.agg #[(.pointer none),(.pointer none),(.pointer none),(.string .empty)]) (by kernel_rfl) rfl rfl rfl rfl (by decide) (fun h=>by cases h)
def V7r:TyI:=⟨.struct [(0,17,1),(1,17,1),(2,17,1),(3,9,1)],4,40,[(.pointer none),(.pointer none),(.pointer none),(.string .empty)],false⟩
theorem Y2x:TyOk Tryz.prog 312 V7r:=TyOk.of Tryz.underlying312 (show TK.ok _ (.struct [(0,17,1),(1,17,1),(2,17,1),(3,9,1)]) _ from ⟨_,rfl,rfl,fun x hx=>by simp only [U8,List.not_mem_nil,or_false] at hx;rcases hx with rfl | rfl | rfl | rfl<;>exact ⟨by kernel_rfl,by decide⟩⟩) (.agg #[(.pointer none),(.pointer none),(.pointer none),(.string .empty)]) (by kernel_rfl) rfl rfl rfl rfl (by decide) (fun h=>by cases h)
def V7q:TyI:=⟨.array 0 16,0,0,[],false⟩
theorem Y2w:TyOk Tryz.prog 313 V7q:=TyOk.of Tryz.underlying313 (show TK.ok _ (.array 0 16) _ from rfl) (.agg #[]) (by kernel_rfl) rfl rfl rfl rfl (by decide) (fun h=>by cases h)
def V7p:TyI:=⟨.int .u8,1,1,[(.int .u8 0)],false⟩
theorem Y2v:TyOk Tryz.prog 317 V7p:=TyOk.of Tryz.underlying317 (show TK.ok _ (.int .u8) _ from rfl) (.int .u8 0) (by kernel_rfl) rfl rfl rfl rfl (by decide) (fun h=>by cases h)
def V7o:TyI:=⟨.int .u8,1,1,[(.int .u8 0)],false⟩
theorem Y2u:TyOk Tryz.prog 318 V7o:=TyOk.of Tryz.underlying318 (show TK.ok _ (.int .u8) _ from rfl) (.int .u8 0) (by kernel_rfl) rfl rfl rfl rfl (by decide) (fun h=>by cases h)
def V7n:TyI:=⟨.pointer 5,1,8,[(.pointer none)],false⟩
theorem Y2t:TyOk Tryz.prog 320 V7n:=TyOk.of Tryz.underlying320 (show TK.ok _ (.pointer 5) _ from rfl) (.pointer none) (by kernel_rfl) rfl rfl rfl rfl (by decide) (fun h=>by cases h)
def V7m:TyI:=⟨.int .i32,1,4,[(.int .i32 0)],false⟩
theorem Y2s:TyOk Tryz.prog 321 V7m:=TyOk.of Tryz.underlying321 (show TK.ok _ (.int .i32) _ from rfl) (.int .i32 0) (by kernel_rfl) rfl rfl rfl rfl (by decide) (fun h=>by cases h)
def V7l:TyI:=⟨.int .i32,1,4,[(.int .i32 0)],false⟩
theorem Y2r:TyOk Tryz.prog 322 V7l:=TyOk.of Tryz.underlying322 (show TK.ok _ (.int .i32) _ from rfl) (.int .i32 0) (by kernel_rfl) rfl rfl rfl rfl (by decide) (fun h=>by cases h)
def Tys:Ty:=fun t=>match t with
 | 2=>some ti2
 | 3=>some ti3
 | 4=>some ti4
 | 5=>some ti5
 | 6=>some ti6
 | 7=>some ti7
 | 8=>some ti8
 | 9=>some ti9
 | 10=>some ti10
 | 11=>some ti11
 | 12=>some ti12
 | 13=>some ti13
 | 14=>some ti14
 | 15=>some ti15
 | 16=>some ti16
 | 17=>some ti17
 | 18=>some ti18
 | 19=>some ti19
 | 21=>some ti21
 | 22=>some ti22
 | 23=>some ti23
 | 24=>some ti24
 | 25=>some ti25
 | 26=>some ti26
 | 27=>some ti27
 | 28=>some ti28
 | 29=>some ti29
 | 32=>some ti32
 | 35=>some ti35
 | 37=>some ti37
 | 49=>some ti49
 | 54=>some ti54
 | 55=>some ti55
 | 56=>some ti56
 | 61=>some ti61
 | 62=>some ti62
 | 63=>some ti63
 | 64=>some ti64
 | 68=>some ti68
 | 69=>some ti69
 | 70=>some ti70
 | 71=>some ti71
 | 72=>some ti72
 | 73=>some ti73
 | 74=>some ti74
 | 87=>some ti87
 | 97=>some ti97
 | 101=>some V9a
 | 102=>some V99
 | 104=>some V98
 | 105=>some V97
 | 109=>some V96
 | 121=>some V95
 | 122=>some V94
 | 123=>some V93
 | 125=>some V92
 | 126=>some V91
 | 128=>some V90
 | 129=>some V8z
 | 131=>some V8y
 | 132=>some V8x
 | 133=>some V8w
 | 136=>some V8v
 | 137=>some V8u
 | 143=>some V8t
 | 144=>some V8s
 | 146=>some V8r
 | 147=>some V8q
 | 164=>some V8p
 | 168=>some V8o
 | 179=>some V8n
 | 181=>some V8m
 | 182=>some V8l
 | 195=>some V8k
 | 196=>some V8j
 | 197=>some V8i
 | 198=>some V8h
 | 200=>some V8g
 | 208=>some V8f
 | 213=>some V8e
 | 220=>some V8d
 | 222=>some V8c
 | 224=>some V8b
 | 225=>some V8a
 | 226=>some V89
 | 227=>some V88
 | 228=>some V87
 | 234=>some V86
 | 235=>some V85
 | 236=>some V84
 | 241=>some V83
 | 242=>some V82
 | 244=>some V81
 | 247=>some V80
 | 248=>some V7z
 | 261=>some V7y
 | 267=>some V7x
 | 268=>some V7w
 | 271=>some V7v
 | 296=>some V7u
 | 298=>some V7t
 | 311=>some V7s
 | 312=>some V7r
 | 313=>some V7q
 | 317=>some V7p
 | 318=>some V7o
 | 320=>some V7n
 | 321=>some V7m
 | 322=>some V7l
 | _=>none
@[simp] theorem tys2:Tys 2=some ⟨.int .i64,1,8,[(.int .i64 0)],false⟩:=rfl
@[simp] theorem tys3:Tys 3=some ⟨.int .i64,1,8,[(.int .i64 0)],false⟩:=rfl
@[simp] theorem tys4:Tys 4=some ⟨.bool,1,1,[(.bool false)],false⟩:=rfl
@[simp] theorem tys5:Tys 5=some ⟨.int .u8,1,1,[(.int .u8 0)],false⟩:=rfl
@[simp] theorem tys6:Tys 6=some ⟨.int .u8,1,1,[(.int .u8 0)],false⟩:=rfl
@[simp] theorem tys7:Tys 7=some ⟨.struct [(0,2,1),(1,3,1),(2,4,1),(3,6,1)],4,24,[(.int .i64 0),(.int .i64 0),(.bool false),(.int .u8 0)],false⟩:=rfl
@[simp] theorem tys8:Tys 8=some ⟨.struct [(0,2,1),(1,3,1),(2,4,1),(3,6,1)],4,24,[(.int .i64 0),(.int .i64 0),(.bool false),(.int .u8 0)],false⟩:=rfl
@[simp] theorem tys9:Tys 9=some ⟨.string,1,16,[(.string .empty)],false⟩:=rfl
@[simp] theorem tys10:Tys 10=some ⟨.string,1,16,[(.string .empty)],false⟩:=rfl
@[simp] theorem tys11:Tys 11=some ⟨.string,1,16,[(.string .empty)],false⟩:=rfl
@[simp] theorem tys12:Tys 12=some ⟨.int .u64,1,8,[(.int .u64 0)],false⟩:=rfl
@[simp] theorem tys13:Tys 13=some ⟨.struct [(0,9,1),(1,12,1)],2,24,[(.string .empty),(.int .u64 0)],false⟩:=rfl
@[simp] theorem tys14:Tys 14=some ⟨.struct [(0,9,1),(1,12,1)],2,24,[(.string .empty),(.int .u64 0)],false⟩:=rfl
@[simp] theorem tys15:Tys 15=some ⟨.pointer 312,1,8,[(.pointer none)],false⟩:=rfl
@[simp] theorem tys16:Tys 16=some ⟨.pointer 315,1,8,[(.pointer none)],false⟩:=rfl
@[simp] theorem tys17:Tys 17=some ⟨.pointer 324,1,8,[(.pointer none)],false⟩:=rfl
@[simp] theorem tys18:Tys 18=some ⟨.struct [(0,17,1)],1,8,[(.pointer none)],false⟩:=rfl
@[simp] theorem tys19:Tys 19=some ⟨.struct [(0,17,1)],1,8,[(.pointer none)],false⟩:=rfl
@[simp] theorem tys21:Tys 21=some ⟨.int .i32,1,4,[(.int .i32 0)],false⟩:=rfl
@[simp] theorem tys22:Tys 22=some ⟨.slice 5,1,24,[(.slice none 0 0)],false⟩:=rfl
@[simp] theorem tys23:Tys 23=some ⟨.slice 226,1,24,[(.slice none 0 0)],false⟩:=rfl
@[simp] theorem tys24:Tys 24=some ⟨.struct [(0,3,1),(1,3,1)],2,16,[(.int .i64 0),(.int .i64 0)],false⟩:=rfl
@[simp] theorem tys25:Tys 25=some ⟨.struct [(0,3,1),(1,3,1)],2,16,[(.int .i64 0),(.int .i64 0)],true⟩:=rfl
@[simp] theorem tys26:Tys 26=some ⟨.slice 74,1,24,[(.slice none 0 0)],false⟩:=rfl
@[simp] theorem tys27:Tys 27=some ⟨.slice 29,1,24,[(.slice none 0 0)],false⟩:=rfl
@[simp] theorem tys28:Tys 28=some ⟨.struct [(0,3,1),(1,3,1),(2,27,1)],3,40,[(.int .i64 0),(.int .i64 0),(.slice none 0 0)],false⟩:=rfl
@[simp] theorem tys29:Tys 29=some ⟨.struct [(0,3,1),(1,3,1),(2,27,1)],3,40,[(.int .i64 0),(.int .i64 0),(.slice none 0 0)],false⟩:=rfl
@[simp] theorem tys32:Tys 32=some ⟨.slice 35,1,24,[(.slice none 0 0)],false⟩:=rfl
@[simp] theorem tys35:Tys 35=some ⟨.slice 3,1,24,[(.slice none 0 0)],false⟩:=rfl
@[simp] theorem tys37:Tys 37=some ⟨.slice 144,1,24,[(.slice none 0 0)],false⟩:=rfl
@[simp] theorem tys49:Tys 49=some ⟨.slice 56,1,24,[(.slice none 0 0)],false⟩:=rfl
@[simp] theorem tys54:Tys 54=some ⟨.slice 105,1,24,[(.slice none 0 0)],false⟩:=rfl
@[simp] theorem tys55:Tys 55=some ⟨.struct [(0,3,1),(1,35,1),(2,3,1),(3,3,1),(4,3,1),(5,3,1),(6,54,1),(7,3,1)],8,96,[(.int .i64 0),(.slice none 0 0),(.int .i64 0),(.int .i64 0),(.int .i64 0),(.int .i64 0),(.slice none 0 0),(.int .i64 0)],false⟩:=rfl
@[simp] theorem tys56:Tys 56=some ⟨.struct [(0,3,1),(1,35,1),(2,3,1),(3,3,1),(4,3,1),(5,3,1),(6,54,1),(7,3,1)],8,96,[(.int .i64 0),(.slice none 0 0),(.int .i64 0),(.int .i64 0),(.int .i64 0),(.int .i64 0),(.slice none 0 0),(.int .i64 0)],false⟩:=rfl
@[simp] theorem tys61:Tys 61=some ⟨.slice 137,1,24,[(.slice none 0 0)],false⟩:=rfl
@[simp] theorem tys62:Tys 62=some ⟨.slice 64,1,24,[(.slice none 0 0)],false⟩:=rfl
@[simp] theorem tys63:Tys 63=some ⟨.struct [(0,3,1),(1,3,1),(2,54,1),(3,35,1),(4,61,1),(5,62,1)],6,112,[(.int .i64 0),(.int .i64 0),(.slice none 0 0),(.slice none 0 0),(.slice none 0 0),(.slice none 0 0)],false⟩:=rfl
@[simp] theorem tys64:Tys 64=some ⟨.struct [(0,3,1),(1,3,1),(2,54,1),(3,35,1),(4,61,1),(5,62,1)],6,112,[(.int .i64 0),(.int .i64 0),(.slice none 0 0),(.slice none 0 0),(.slice none 0 0),(.slice none 0 0)],false⟩:=rfl
@[simp] theorem tys68:Tys 68=some ⟨.slice 70,1,24,[(.slice none 0 0)],false⟩:=rfl
@[simp] theorem tys69:Tys 69=some ⟨.struct [(0,3,1),(1,3,1),(2,3,1),(3,3,1),(4,3,1),(5,68,1)],6,64,[(.int .i64 0),(.int .i64 0),(.int .i64 0),(.int .i64 0),(.int .i64 0),(.slice none 0 0)],false⟩:=rfl
@[simp] theorem tys70:Tys 70=some ⟨.struct [(0,3,1),(1,3,1),(2,3,1),(3,3,1),(4,3,1),(5,68,1)],6,64,[(.int .i64 0),(.int .i64 0),(.int .i64 0),(.int .i64 0),(.int .i64 0),(.slice none 0 0)],false⟩:=rfl
@[simp] theorem tys71:Tys 71=some ⟨.struct [(0,3,1),(1,3,1),(2,3,1)],3,24,[(.int .i64 0),(.int .i64 0),(.int .i64 0)],false⟩:=rfl
@[simp] theorem tys72:Tys 72=some ⟨.struct [(0,3,1),(1,3,1),(2,3,1)],3,24,[(.int .i64 0),(.int .i64 0),(.int .i64 0)],true⟩:=rfl
@[simp] theorem tys73:Tys 73=some ⟨.struct [(0,70,6),(6,72,3)],9,88,[(.int .i64 0),(.int .i64 0),(.int .i64 0),(.int .i64 0),(.int .i64 0),(.slice none 0 0),(.int .i64 0),(.int .i64 0),(.int .i64 0)],false⟩:=rfl
@[simp] theorem tys74:Tys 74=some ⟨.struct [(0,70,6),(6,72,3)],9,88,[(.int .i64 0),(.int .i64 0),(.int .i64 0),(.int .i64 0),(.int .i64 0),(.slice none 0 0),(.int .i64 0),(.int .i64 0),(.int .i64 0)],false⟩:=rfl
@[simp] theorem tys87:Tys 87=some ⟨.pointer 147,1,8,[(.pointer none)],false⟩:=rfl
@[simp] theorem tys97:Tys 97=some ⟨.slice 68,1,24,[(.slice none 0 0)],false⟩:=rfl
@[simp] theorem tys101:Tys 101=some ⟨.pointer 49,1,8,[(.pointer none)],false⟩:=rfl
@[simp] theorem tys102:Tys 102=some ⟨.pointer 54,1,8,[(.pointer none)],false⟩:=rfl
@[simp] theorem tys104:Tys 104=some ⟨.struct [(0,3,1),(1,35,1)],2,32,[(.int .i64 0),(.slice none 0 0)],false⟩:=rfl
@[simp] theorem tys105:Tys 105=some ⟨.struct [(0,3,1),(1,35,1)],2,32,[(.int .i64 0),(.slice none 0 0)],false⟩:=rfl
@[simp] theorem tys109:Tys 109=some ⟨.pointer 3,1,8,[(.pointer none)],false⟩:=rfl
@[simp] theorem tys121:Tys 121=some ⟨.slice 123,1,24,[(.slice none 0 0)],false⟩:=rfl
@[simp] theorem tys122:Tys 122=some ⟨.struct [(0,3,1),(1,68,1),(2,54,1)],3,56,[(.int .i64 0),(.slice none 0 0),(.slice none 0 0)],false⟩:=rfl
@[simp] theorem tys123:Tys 123=some ⟨.struct [(0,3,1),(1,68,1),(2,54,1)],3,56,[(.int .i64 0),(.slice none 0 0),(.slice none 0 0)],false⟩:=rfl
@[simp] theorem tys125:Tys 125=some ⟨.pointer 129,1,8,[(.pointer none)],false⟩:=rfl
@[simp] theorem tys126:Tys 126=some ⟨.pointer 182,1,8,[(.pointer none)],false⟩:=rfl
@[simp] theorem tys128:Tys 128=some ⟨.struct [(0,126,1),(1,26,1),(2,3,1),(3,3,1)],4,48,[(.pointer none),(.slice none 0 0),(.int .i64 0),(.int .i64 0)],false⟩:=rfl
@[simp] theorem tys129:Tys 129=some ⟨.struct [(0,126,1),(1,26,1),(2,3,1),(3,3,1)],4,48,[(.pointer none),(.slice none 0 0),(.int .i64 0),(.int .i64 0)],false⟩:=rfl
@[simp] theorem tys131:Tys 131=some ⟨.struct [(0,35,1),(1,25,2)],3,40,[(.slice none 0 0),(.int .i64 0),(.int .i64 0)],false⟩:=rfl
@[simp] theorem tys132:Tys 132=some ⟨.struct [(0,35,1),(1,25,2)],3,40,[(.slice none 0 0),(.int .i64 0),(.int .i64 0)],false⟩:=rfl
@[simp] theorem tys133:Tys 133=some ⟨.slice 132,1,24,[(.slice none 0 0)],false⟩:=rfl
@[simp] theorem tys136:Tys 136=some ⟨.struct [(0,3,1),(1,3,1),(2,3,1),(3,64,6)],9,136,[(.int .i64 0),(.int .i64 0),(.int .i64 0),(.int .i64 0),(.int .i64 0),(.slice none 0 0),(.slice none 0 0),(.slice none 0 0),(.slice none 0 0)],false⟩:=rfl
@[simp] theorem tys137:Tys 137=some ⟨.struct [(0,3,1),(1,3,1),(2,3,1),(3,64,6)],9,136,[(.int .i64 0),(.int .i64 0),(.int .i64 0),(.int .i64 0),(.int .i64 0),(.slice none 0 0),(.slice none 0 0),(.slice none 0 0),(.slice none 0 0)],false⟩:=rfl
@[simp] theorem tys143:Tys 143=some ⟨.struct [(0,3,1),(1,29,3)],4,48,[(.int .i64 0),(.int .i64 0),(.int .i64 0),(.slice none 0 0)],false⟩:=rfl
@[simp] theorem tys144:Tys 144=some ⟨.struct [(0,3,1),(1,29,3)],4,48,[(.int .i64 0),(.int .i64 0),(.int .i64 0),(.slice none 0 0)],false⟩:=rfl
@[simp] theorem tys146:Tys 146=some ⟨.struct [(0,22,1),(1,3,1)],2,32,[(.slice none 0 0),(.int .i64 0)],false⟩:=rfl
@[simp] theorem tys147:Tys 147=some ⟨.struct [(0,22,1),(1,3,1)],2,32,[(.slice none 0 0),(.int .i64 0)],false⟩:=rfl
@[simp] theorem tys164:Tys 164=some ⟨.int .u64,1,8,[(.int .u64 0)],false⟩:=rfl
@[simp] theorem tys168:Tys 168=some ⟨.slice 25,1,24,[(.slice none 0 0)],false⟩:=rfl
@[simp] theorem tys179:Tys 179=some ⟨.pointer 236,1,8,[(.pointer none)],false⟩:=rfl
@[simp] theorem tys181:Tys 181=some ⟨.struct [(0,23,1),(1,179,1)],2,32,[(.slice none 0 0),(.pointer none)],false⟩:=rfl
@[simp] theorem tys182:Tys 182=some ⟨.struct [(0,23,1),(1,179,1)],2,32,[(.slice none 0 0),(.pointer none)],false⟩:=rfl
@[simp] theorem tys195:Tys 195=some ⟨.struct [(0,35,1),(1,25,2)],3,40,[(.slice none 0 0),(.int .i64 0),(.int .i64 0)],false⟩:=rfl
@[simp] theorem tys196:Tys 196=some ⟨.struct [(0,35,1),(1,25,2)],3,40,[(.slice none 0 0),(.int .i64 0),(.int .i64 0)],false⟩:=rfl
@[simp] theorem tys197:Tys 197=some ⟨.slice 196,1,24,[(.slice none 0 0)],false⟩:=rfl
@[simp] theorem tys198:Tys 198=some ⟨.slice 248,1,24,[(.slice none 0 0)],false⟩:=rfl
@[simp] theorem tys200:Tys 200=some ⟨.slice 27,1,24,[(.slice none 0 0)],false⟩:=rfl
@[simp] theorem tys208:Tys 208=some ⟨.slice 268,1,24,[(.slice none 0 0)],false⟩:=rfl
@[simp] theorem tys213:Tys 213=some ⟨.int .i64,1,8,[(.int .i64 0)],false⟩:=rfl
@[simp] theorem tys220:Tys 220=some ⟨.int .u32,1,4,[(.int .u32 0)],false⟩:=rfl
@[simp] theorem tys222:Tys 222=some ⟨.int .u64,1,8,[(.int .u64 0)],false⟩:=rfl
@[simp] theorem tys224:Tys 224=some ⟨.slice 228,1,24,[(.slice none 0 0)],false⟩:=rfl
@[simp] theorem tys225:Tys 225=some ⟨.struct [(0,9,1),(1,224,1)],2,40,[(.string .empty),(.slice none 0 0)],false⟩:=rfl
@[simp] theorem tys226:Tys 226=some ⟨.struct [(0,9,1),(1,224,1)],2,40,[(.string .empty),(.slice none 0 0)],false⟩:=rfl
@[simp] theorem tys227:Tys 227=some ⟨.struct [(0,9,1),(1,168,1),(2,3,1)],3,48,[(.string .empty),(.slice none 0 0),(.int .i64 0)],false⟩:=rfl
@[simp] theorem tys228:Tys 228=some ⟨.struct [(0,9,1),(1,168,1),(2,3,1)],3,48,[(.string .empty),(.slice none 0 0),(.int .i64 0)],false⟩:=rfl
@[simp] theorem tys234:Tys 234=some ⟨.array 4 3,4,32,[(.int .i64 0),(.int .i64 0),(.int .i64 0),(.int .i64 0)],false⟩:=rfl
@[simp] theorem tys235:Tys 235=some ⟨.array 4 234,16,128,[(.int .i64 0),(.int .i64 0),(.int .i64 0),(.int .i64 0),(.int .i64 0),(.int .i64 0),(.int .i64 0),(.int .i64 0),(.int .i64 0),(.int .i64 0),(.int .i64 0),(.int .i64 0),(.int .i64 0),(.int .i64 0),(.int .i64 0),(.int .i64 0)],false⟩:=rfl
@[simp] theorem tys236:Tys 236=some ⟨.array 4 234,16,128,[(.int .i64 0),(.int .i64 0),(.int .i64 0),(.int .i64 0),(.int .i64 0),(.int .i64 0),(.int .i64 0),(.int .i64 0),(.int .i64 0),(.int .i64 0),(.int .i64 0),(.int .i64 0),(.int .i64 0),(.int .i64 0),(.int .i64 0),(.int .i64 0)],false⟩:=rfl
@[simp] theorem tys241:Tys 241=some ⟨.array 11 4,11,11,[(.bool false),(.bool false),(.bool false),(.bool false),(.bool false),(.bool false),(.bool false),(.bool false),(.bool false),(.bool false),(.bool false)],false⟩:=rfl
@[simp] theorem tys242:Tys 242=some ⟨.slice 133,1,24,[(.slice none 0 0)],false⟩:=rfl
@[simp] theorem tys244:Tys 244=some ⟨.map 9 4,1,8,[(.map none)],false⟩:=rfl
@[simp] theorem tys247:Tys 247=some ⟨.struct [(0,3,1),(1,68,1),(2,54,1)],3,56,[(.int .i64 0),(.slice none 0 0),(.slice none 0 0)],false⟩:=rfl
@[simp] theorem tys248:Tys 248=some ⟨.struct [(0,3,1),(1,68,1),(2,54,1)],3,56,[(.int .i64 0),(.slice none 0 0),(.slice none 0 0)],false⟩:=rfl
@[simp] theorem tys261:Tys 261=some ⟨.slice 9,1,24,[(.slice none 0 0)],false⟩:=rfl
@[simp] theorem tys267:Tys 267=some ⟨.struct [(0,3,1),(1,25,2)],3,24,[(.int .i64 0),(.int .i64 0),(.int .i64 0)],false⟩:=rfl
@[simp] theorem tys268:Tys 268=some ⟨.struct [(0,3,1),(1,25,2)],3,24,[(.int .i64 0),(.int .i64 0),(.int .i64 0)],true⟩:=rfl
@[simp] theorem tys271:Tys 271=some ⟨.int .u64,1,8,[(.int .u64 0)],false⟩:=rfl
@[simp] theorem tys296:Tys 296=some ⟨.array 6 4,6,6,[(.bool false),(.bool false),(.bool false),(.bool false),(.bool false),(.bool false)],false⟩:=rfl
@[simp] theorem tys298:Tys 298=some ⟨.pointer 271,1,8,[(.pointer none)],false⟩:=rfl
@[simp] theorem tys311:Tys 311=some ⟨.struct [(0,17,1),(1,17,1),(2,17,1),(3,9,1)],4,40,[(.pointer none),(.pointer none),(.pointer none),(.string .empty)],false⟩:=rfl
@[simp] theorem tys312:Tys 312=some ⟨.struct [(0,17,1),(1,17,1),(2,17,1),(3,9,1)],4,40,[(.pointer none),(.pointer none),(.pointer none),(.string .empty)],false⟩:=rfl
@[simp] theorem tys313:Tys 313=some ⟨.array 0 16,0,0,[],false⟩:=rfl
@[simp] theorem tys317:Tys 317=some ⟨.int .u8,1,1,[(.int .u8 0)],false⟩:=rfl
@[simp] theorem tys318:Tys 318=some ⟨.int .u8,1,1,[(.int .u8 0)],false⟩:=rfl
@[simp] theorem tys320:Tys 320=some ⟨.pointer 5,1,8,[(.pointer none)],false⟩:=rfl
@[simp] theorem tys321:Tys 321=some ⟨.int .i32,1,4,[(.int .i32 0)],false⟩:=rfl
@[simp] theorem tys322:Tys 322=some ⟨.int .i32,1,4,[(.int .i32 0)],false⟩:=rfl
theorem Q94:Z0q Tryz.prog Tys:=fun t i h=>by
 unfold Tys at h
 split at h
 ·cases h;exact ty2
 ·cases h;exact ty3
 ·cases h;exact ty4
 ·cases h;exact ty5
 ·cases h;exact ty6
 ·cases h;exact ty7
 ·cases h;exact ty8
 ·cases h;exact ty9
 ·cases h;exact ty10
 ·cases h;exact ty11
 ·cases h;exact ty12
 ·cases h;exact ty13
 ·cases h;exact ty14
 ·cases h;exact ty15
 ·cases h;exact ty16
 ·cases h;exact ty17
 ·cases h;exact ty18
 ·cases h;exact ty19
 ·cases h;exact ty21
 ·cases h;exact ty22
 ·cases h;exact ty23
 ·cases h;exact ty24
 ·cases h;exact ty25
 ·cases h;exact ty26
 ·cases h;exact ty27
 ·cases h;exact ty28
 ·cases h;exact ty29
 ·cases h;exact ty32
 ·cases h;exact ty35
 ·cases h;exact ty37
 ·cases h;exact ty49
 ·cases h;exact ty54
 ·cases h;exact ty55
 ·cases h;exact ty56
 ·cases h;exact ty61
 ·cases h;exact ty62
 ·cases h;exact ty63
 ·cases h;exact ty64
 ·cases h;exact ty68
 ·cases h;exact ty69
 ·cases h;exact ty70
 ·cases h;exact ty71
 ·cases h;exact ty72
 ·cases h;exact ty73
 ·cases h;exact ty74
 ·cases h;exact ty87
 ·cases h;exact ty97
 ·cases h;exact Y4g
 ·cases h;exact Y4f
 ·cases h;exact Y4e
 ·cases h;exact Y4d
 ·cases h;exact Y4c
 ·cases h;exact Y4b
 ·cases h;exact Y4a
 ·cases h;exact Y49
 ·cases h;exact Y48
 ·cases h;exact Y47
 ·cases h;exact Y46
 ·cases h;exact Y45
 ·cases h;exact Y44
 ·cases h;exact Y43
 ·cases h;exact Y42
 ·cases h;exact Y41
 ·cases h;exact Y40
 ·cases h;exact Y3z
 ·cases h;exact Y3y
 ·cases h;exact Y3x
 ·cases h;exact Y3w
 ·cases h;exact Y3v
 ·cases h;exact Y3u
 ·cases h;exact Y3t
 ·cases h;exact Y3s
 ·cases h;exact Y3r
 ·cases h;exact Y3q
 ·cases h;exact Y3p
 ·cases h;exact Y3o
 ·cases h;exact Y3n
 ·cases h;exact Y3m
 ·cases h;exact Y3l
 ·cases h;exact Y3k
 ·cases h;exact Y3j
 ·cases h;exact Y3i
 ·cases h;exact Y3h
 ·cases h;exact Y3g
 ·cases h;exact Y3f
 ·cases h;exact Y3e
 ·cases h;exact Y3d
 ·cases h;exact Y3c
 ·cases h;exact Y3b
 ·cases h;exact Y3a
 ·cases h;exact Y39
 ·cases h;exact Y38
 ·cases h;exact Y37
 ·cases h;exact Y36
 ·cases h;exact Y35
 ·cases h;exact Y34
 ·cases h;exact Y33
 ·cases h;exact Y32
 ·cases h;exact Y31
 ·cases h;exact Y30
 ·cases h;exact Y2z
 ·cases h;exact Y2y
 ·cases h;exact Y2x
 ·cases h;exact Y2w
 ·cases h;exact Y2v
 ·cases h;exact Y2u
 ·cases h;exact Y2t
 ·cases h;exact Y2s
 ·cases h;exact Y2r
 ·cases h
theorem V0z:Tryz.prog.follows .mixedOrders=true:=rfl
end Go.Proofs.YtgjpamkllimhdaaGreat
